-- Written by a program of this session (wip/drv.py) out of Lean's own print of the loaded program; hand-proved parts from wip/inj.
import Derived.Test.YtdfmjmmiepmplaaMBx0
namespace Go.Proofs.Ytdfmjmmiepmplaa.MB
open Go.RowKit Go.Proofs.YtdfmjmmiepmplaaW.PrintWords Go.Proofs.YtdfmjmmiepmplaaW.PrintLast Go.Proofs.YtdfmjmmiepmplaaW.PrintMore
attribute [local go_sem] max2_int min2_int max_two min_two max_three min_three max_four min_four   -- for this text's walks alone
set_option linter.unusedVariables false
set_option linter.unusedSimpArgs false

/-! ### impl_reach: function 80 (by hand: wip/inj) -/
def arrOf (B : List Bool) : Array Value := (B.map Value.bool).toArray
def reachStep (l0 : List S69) (l1 : List Int) (width : Int) (i : Nat) (B : List Bool) : List Bool :=
  if (decide (width ≤ l1.getD i 0) && (B.getD (l0.getD i z69).f0.toNat false != B.getD (l0.getD i z69).f1.toNat false)) = true then (B.set (l0.getD i z69).f0.toNat true).set (l0.getD i z69).f1.toNat true else B
def reachPass (l0 : List S69) (l1 : List Int) (width : Int) : Nat → Nat → List Bool → List Bool
  | 0, _, B => B
  | d + 1, i, B => reachPass l0 l1 width d (i + 1) (reachStep l0 l1 width i B)
def reachAll (l0 : List S69) (l1 : List Int) (width : Int) : Nat → List Bool → List Bool
  | 0, B => B
  | m + 1, B => reachAll l0 l1 width m (reachPass l0 l1 width l0.length 0 B)
def reachOk (l0 : List S69) (l1 : List Int) (from_ : Int) : Bool := decide (l0.length ≤ l1.length) && (decide (0 ≤ from_ ∧ from_ ≤ 7) && l0.all (fun x => decide (0 ≤ x.f0 ∧ x.f0 ≤ 7) && decide (0 ≤ x.f1 ∧ x.f1 ≤ 7)))
def impl_reach.f (l0 : List S69) (l1 : List Int) (a2 a3 : Int) : Option (List Bool) := if reachOk l0 l1 a2 = true then some (reachAll l0 l1 a3 l0.length ((List.replicate 8 false).set a2.toNat true)) else none
theorem arrOf_set (B : List Bool) (i : Nat) (v : Bool) : (arrOf B).setIfInBounds i (.bool v) = arrOf (B.set i v) := by
  unfold arrOf
  rw [List.setIfInBounds_toArray, List.map_set]
theorem arrOf_get {B : List Bool} {i : Nat} (h : i < B.length) : (arrOf B)[i]? = some (.bool (B.getD i false)) := by
  simp [arrOf, List.getD_eq_getElem?_getD, List.getElem?_eq_getElem h]
theorem reachStep_length (l0 : List S69) (l1 : List Int) (width : Int) (i : Nat) (B : List Bool) : (reachStep l0 l1 width i B).length = B.length := by
  unfold reachStep
  split <;> simp
theorem reachPass_length (l0 : List S69) (l1 : List Int) (width : Int) : ∀ d i B, (reachPass l0 l1 width d i B).length = B.length
  | 0, _, _ => rfl
  | d + 1, i, B => by
    simp only [reachPass]
    rw [reachPass_length l0 l1 width d (i + 1), reachStep_length]
theorem reach_yes {l0 : List S69} {l1 : List Int} {a3 y : Int} {B : List Bool} (h0 : 0 ≤ y) (hl : y < l0.length) (hm : l0.length ≤ 9223372036854775807) (hw : rd l1 y ≥ a3) (hst : B.getD (rd_T69 l0 y).f0.toNat false ≠ B.getD (rd_T69 l0 y).f1.toNat false) (k : Nat) :
    reachPass l0 l1 a3 (k + 1) y.toNat B = reachPass l0 l1 a3 k (wrap64 (y + 1)).toNat ((B.set (rd_T69 l0 y).f0.toNat true).set (rd_T69 l0 y).f1.toNat true) := by
  have e : (wrap64 (y + 1)).toNat = y.toNat + 1 := by unfold wrap64; omega
  rw [e]
  show reachPass l0 l1 a3 k (y.toNat + 1) (reachStep l0 l1 a3 y.toNat B) = _
  congr 1
  unfold reachStep
  rw [if_pos]
  · rfl
  · rw [Bool.and_eq_true]
    exact ⟨decide_eq_true hw, bne_iff_ne.2 hst⟩
theorem reach_no {l0 : List S69} {l1 : List Int} {a3 y : Int} {B : List Bool} (h0 : 0 ≤ y) (hl : y < l0.length) (hm : l0.length ≤ 9223372036854775807) (hn : ¬ (rd l1 y ≥ a3 ∧ B.getD (rd_T69 l0 y).f0.toNat false ≠ B.getD (rd_T69 l0 y).f1.toNat false)) (k : Nat) :
    reachPass l0 l1 a3 (k + 1) y.toNat B = reachPass l0 l1 a3 k (wrap64 (y + 1)).toNat B := by
  have e : (wrap64 (y + 1)).toNat = y.toNat + 1 := by unfold wrap64; omega
  rw [e]
  show reachPass l0 l1 a3 k (y.toNat + 1) (reachStep l0 l1 a3 y.toNat B) = _
  congr 1
  unfold reachStep
  rw [if_neg]
  intro h
  rw [Bool.and_eq_true] at h
  exact hn ⟨of_decide_eq_true h.1, bne_iff_ne.1 h.2⟩
set_option maxHeartbeats 8000000 in
set_option maxRecDepth 100000 in
theorem impl_reach.calls (A0 : Option Addr) (c0 : Nat) (l0 : List S69) (A1 : Option Addr) (c1 : Nat) (l1 : List Int) (a2 a3 : Int) (r : List Bool) (w : World) (hr0 : Kd.C k69 w A0 l0.length l0) (hc0 : l0.length ≤ c0) (hr1 : Kd.C (Kd.int .i64) w A1 l1.length l1) (hc1 : l1.length ≤ c1) (h : impl_reach.f l0 l1 a2 a3 = some r) :
    Calls Try.prog 80 #[.slice A0 l0.length c0, .slice A1 l1.length c1, .int .i64 a2, .int .i64 a3] w fun e w' => e = .returned (.agg (arrOf r)) ∧ Below w.heap.size w w' := by
  have huL := Try.underlying69
  have hu84 := Try.underlying91
  have hu4 := Try.underlying4
  unfold impl_reach.f at h
  by_cases hok : reachOk l0 l1 a2 = true
  case neg => rw [if_neg hok] at h; cases h
  rw [if_pos hok] at h
  have hr := Option.some.inj h
  clear h
  simp only [reachOk, Bool.and_eq_true, decide_eq_true_eq, List.all_eq_true] at hok
  obtain ⟨hlen, ⟨hf0, hf7⟩, hall⟩ := hok
  have HALL : Aside0 (∀ i, i < l0.length → (0 ≤ (l0.getD i z69).f0 ∧ (l0.getD i z69).f0 ≤ 7) ∧ (0 ≤ (l0.getD i z69).f1 ∧ (l0.getD i z69).f1 ≤ 7)) := ⟨fun i hi => by
    have := hall _ (List.getElem_mem hi)
    simpa [List.getD_eq_getElem?_getD, List.getElem?_eq_getElem hi] using this⟩
  clear hall
  have HLEN := Aside0.mk hlen
  have HR0 := Aside0.mk hr0
  have HR1 := Aside0.mk hr1
  have HM := Aside0.mk hr0.2.1
  obtain ⟨B0, hB0⟩ : ∃ B0 : List Bool, B0 = (List.replicate 8 false).set a2.toNat true := ⟨_, rfl⟩
  rw [← hB0] at hr
  have HRES := Aside0.mk hr
  have HB0 : Aside0 (B0.length = 8 ∧ ([.bool false, .bool false, .bool false, .bool false, .bool false, .bool false, .bool false, .bool false].set a2.toNat (.bool true) : List Value).toArray = arrOf B0) := ⟨by rw [hB0]; simp, by
    rw [hB0]
    unfold arrOf
    rw [List.map_set]
    rfl⟩
  clear hr hlen hr0 hr1 hc0 hc1 hB0
  have p0 := eq_true hf0
  have q0 : a2 < 8 := by omega
  have hf7' := Aside0.mk hf7
  clear hf7
  go_enter Try.func80, Try.ntmps80
  go_wp2
  
  rw [HB0.out.2]
  go_loopg [16] l0.length (fun kq v16 w' => ∃ (x : Int) (B : List Bool), v16 = .int .i64 x ∧ Aside0 (0 ≤ x ∧ kq + x.toNat = l0.length ∧ B.length = 8 ∧ reachAll l0 l1 a3 kq B = r) ∧ Aside0 (w'.heap[w.heap.size + 1]? = some (.cells (arrOf B) 91 (0, 0))) ∧ Aside0 (w'.heap[w.heap.size]? = some (.cells #[.bool false, .bool false, .bool false, .bool false, .bool false, .bool false, .bool false, .bool false] 91 (0, 0))) ∧ Aside0 (Below w.heap.size w w'))
  case atStart =>
    refine ⟨0, B0, rfl, ⟨by omega, by simp, HB0.out.1, HRES.out⟩, ⟨?_⟩, ⟨?_⟩, ⟨?_⟩⟩
    · exact heap_alloc2_new _ _ _
    · exact blk_alloc (blk_new w _) _
    · exact below_alloc (below_alloc (Below.refl _ _) _) _
  case round =>
    obtain ⟨x, B, rfl, HA, HK1, HK0, HB⟩ := hrel
    by_cases hlt : x < (l0.length : Int)
    · have c0 : decide (x < (l0.length : Int)) = true := decide_eq_true hlt
      have HLT := Aside0.mk hlt
      clear hlt
      obtain ⟨k1, rfl⟩ : ∃ k1, gk = k1 + 1 := ⟨gk - 1, by have := HA.out; have := HLT.out; omega⟩
      obtain ⟨wo, rfl⟩ : ∃ wo : World, wo = wr := ⟨_, rfl⟩
      go_wp2
      go_loopg [20] l0.length (fun kq v20 w' => ∃ (y : Int) (B' : List Bool), v20 = .int .i64 y ∧ Aside0 (0 ≤ y ∧ kq + y.toNat = l0.length ∧ B'.length = 8 ∧ reachPass l0 l1 a3 kq y.toNat B' = reachPass l0 l1 a3 l0.length 0 B) ∧ Aside0 (w'.heap[w.heap.size + 1]? = some (.cells (arrOf B') 91 (0, 0))) ∧ Aside0 (w'.heap[w.heap.size]? = some (.cells #[.bool false, .bool false, .bool false, .bool false, .bool false, .bool false, .bool false, .bool false] 91 (0, 0))) ∧ Aside0 (Below w.heap.size w w'))
      case atStart => exact ⟨0, B, rfl, ⟨by omega, by simp, HA.out.2.2.1, rfl⟩, HK1, HK0, HB⟩
      case round =>
        obtain ⟨y, B', rfl, HA2, HK1', HK0', HB'⟩ := hrel
        by_cases hlt2 : y < (l0.length : Int)
        · have d0 : decide (y < (l0.length : Int)) = true := decide_eq_true hlt2
          have HLT2 := Aside0.mk hlt2
          obtain ⟨ad, e, hx0, hx1, hx2, hx3, hx4⟩ := at_T69 (Kd.C_below HR0.out HB'.out) y HA2.out.1 hlt2
          cases e
          obtain ⟨ad1, e1, hy⟩ := Kd.at_int (Kd.C_below HR1.out HB'.out) y HA2.out.1 (by have := HLEN.out; omega)
          cases e1
          have hq1 : y < (l1.length : Int) := by have := HLEN.out; omega
          have py := eq_true HA2.out.1
          have qy := eq_true hlt2
          have qy1 := eq_true hq1
          clear hlt2 hq1
          obtain ⟨k2, rfl⟩ : ∃ k2, gk = k2 + 1 := ⟨gk - 1, by have := HA2.out; have := HLT2.out; omega⟩
          have HXB := Aside0.mk (HALL.out y.toNat (by have := HA2.out; have := HLT2.out; omega))
          obtain ⟨a, ha⟩ : ∃ a : Int, a = (rd_T69 l0 y).f0 := ⟨_, rfl⟩
          obtain ⟨b, hb⟩ : ∃ b : Int, b = (rd_T69 l0 y).f1 := ⟨_, rfl⟩
          rw [← ha] at hx0
          rw [← hb] at hx1
          have HAB : Aside0 ((0 ≤ a ∧ a ≤ 7) ∧ (0 ≤ b ∧ b ≤ 7)) := ⟨by rw [ha, hb]; exact HXB.out⟩
          have NA := Aside0.mk ha
          have NB := Aside0.mk hb
          clear ha hb
          have pa := eq_true HAB.out.1.1
          have pb := eq_true HAB.out.2.1
          have qa : (a < 8) = True := eq_true (by have := HAB.out; omega)
          have qb : (b < 8) = True := eq_true (by have := HAB.out; omega)
          by_cases hw : rd l1 y ≥ a3
          · have w0 : decide (rd l1 y ≥ a3) = true := decide_eq_true hw
            have w1 : decide (a3 ≤ rd l1 y) = true := decide_eq_true hw
            have HW := Aside0.mk hw
            clear hw
            have ha7 : wr.cell? ⟨w.heap.size + 1, a.toNat, none⟩ = some (.bool (B'.getD a.toNat false)) := (blk_cell HK1'.out _).trans (arrOf_get (by have := HAB.out; have := HA2.out; omega))
            have hb7 : wr.cell? ⟨w.heap.size + 1, b.toNat, none⟩ = some (.bool (B'.getD b.toNat false)) := (blk_cell HK1'.out _).trans (arrOf_get (by have := HAB.out; have := HA2.out; omega))
            have hgl : w.heap.size + 1 < wr.heap.size := blk_lt HK1'.out
            obtain ⟨s, hs⟩ : ∃ s : Bool, s = B'.getD a.toNat false := ⟨_, rfl⟩
            obtain ⟨t, ht⟩ : ∃ t : Bool, t = B'.getD b.toNat false := ⟨_, rfl⟩
            rw [← hs] at ha7
            rw [← ht] at hb7
            have NS := Aside0.mk hs
            have NT := Aside0.mk ht
            clear hs ht
            have AL : ∀ (o : Obj) (p : Addr) (v : Value), wr.cell? p = some v → (wr.alloc o).cell? p = some v := fun o p v h => ((below_alloc (Below.refl wr.heap.size wr) o).cell (World.block_lt_of_cell? wr _ h)).trans h
            have hy' := AL (.cells #[.int .i64 a, .int .i64 b, .int .i64 (rd_T69 l0 y).f2, .int .i64 (rd_T69 l0 y).f3, .int .i64 (rd_T69 l0 y).f4] 69 (0, 0)) _ _ hy
            have ha8 := AL (.cells #[.int .i64 a, .int .i64 b, .int .i64 (rd_T69 l0 y).f2, .int .i64 (rd_T69 l0 y).f3, .int .i64 (rd_T69 l0 y).f4] 69 (0, 0)) _ _ ha7
            have hb8 := AL (.cells #[.int .i64 a, .int .i64 b, .int .i64 (rd_T69 l0 y).f2, .int .i64 (rd_T69 l0 y).f3, .int .i64 (rd_T69 l0 y).f4] 69 (0, 0)) _ _ hb7
            clear AL
            by_cases hst : s = t
            · have NST := Aside0.mk hst
              subst hst
              go_wp2
              go_quiet (fail)
              go_wp2
              go_roundg k2
              case measure => omega
              case rel => exact ⟨wrap64 (y + 1), B', rfl, ⟨by have := HA2.out; have := HLT2.out; have := HM.out; unfold wrap64; omega, by have := HA2.out; have := HLT2.out; have := HM.out; unfold wrap64; omega, HA2.out.2.2.1, by rw [← HA2.out.2.2.2, reach_no HA2.out.1 HLT2.out HM.out (fun h => h.2 (by rw [← NA.out, ← NB.out, ← NS.out, ← NT.out]))]⟩, ⟨blk_drewN (blk_alloc HK1'.out _) _⟩, ⟨blk_drewN (blk_alloc HK0'.out _) _⟩, ⟨pw_below_drewN (below_alloc HB'.out _) _⟩⟩
            · have hst' : (s != t) = true := bne_iff_ne.2 hst
              have NST := Aside0.mk hst
              clear hst
              have hst2 : (s == t) = false := by simpa using hst'
              have hne : ¬ a.toNat = b.toNat := fun h => NST.out (by rw [NS.out, NT.out, h])
              have hne' : ¬ b.toNat = a.toNat := fun h => hne h.symm
              have hfa : (wr.alloc (.cells #[.int .i64 a, .int .i64 b, .int .i64 (rd_T69 l0 y).f2, .int .i64 (rd_T69 l0 y).f3, .int .i64 (rd_T69 l0 y).f4] 69 (0, 0))).frozen? ⟨w.heap.size + 1, a.toNat, none⟩ = false := blk_frozen (blk_alloc HK1'.out _) _
              have hfb : (wr.alloc (.cells #[.int .i64 a, .int .i64 b, .int .i64 (rd_T69 l0 y).f2, .int .i64 (rd_T69 l0 y).f3, .int .i64 (rd_T69 l0 y).f4] 69 (0, 0))).frozen? ⟨w.heap.size + 1, b.toNat, none⟩ = false := blk_frozen (blk_alloc HK1'.out _) _
              go_wp2
              go_quiet (fail)
              go_wp2
              
              go_region
              all_goals go_wp2
              all_goals go_roundg k2
              all_goals first | (show _ < _; omega) | exact ⟨wrap64 (y + 1), (B'.set a.toNat true).set b.toNat true, rfl, ⟨by have := HA2.out; have := HLT2.out; have := HM.out; unfold wrap64; omega, by have := HA2.out; have := HLT2.out; have := HM.out; unfold wrap64; omega, by simpa using HA2.out.2.2.1, by rw [← HA2.out.2.2.2, reach_yes HA2.out.1 HLT2.out HM.out (by have := HW.out; omega) (fun h => NST.out (by rw [NS.out, NT.out, NA.out, NB.out, h])), NA.out, NB.out]⟩, ⟨by rw [← arrOf_set, ← arrOf_set]; exact blk_set (blk_set (blk_drewN (blk_alloc HK1'.out _) _) _ _) _ _⟩, ⟨blk_far (p := ⟨w.heap.size + 1, b.toNat, none⟩) (blk_far (p := ⟨w.heap.size + 1, a.toNat, none⟩) (blk_drewN (blk_alloc HK0'.out _) _) (Nat.ne_of_lt (Nat.lt_succ_self _)) _) (Nat.ne_of_lt (Nat.lt_succ_self _)) _⟩, ⟨((pw_below_drewN (below_alloc HB'.out _) _).setCell (p := ⟨w.heap.size + 1, a.toNat, none⟩) (Nat.le_succ _) _).setCell (p := ⟨w.heap.size + 1, b.toNat, none⟩) (Nat.le_succ _) _⟩⟩
          · have w0 : decide (rd l1 y ≥ a3) = false := decide_eq_false hw
            have w1 : decide (a3 ≤ rd l1 y) = false := decide_eq_false hw
            have HW := Aside0.mk hw
            clear hw
            have AL : ∀ (o : Obj) (p : Addr) (v : Value), wr.cell? p = some v → (wr.alloc o).cell? p = some v := fun o p v h => ((below_alloc (Below.refl wr.heap.size wr) o).cell (World.block_lt_of_cell? wr _ h)).trans h
            have hy' := AL (.cells #[.int .i64 a, .int .i64 b, .int .i64 (rd_T69 l0 y).f2, .int .i64 (rd_T69 l0 y).f3, .int .i64 (rd_T69 l0 y).f4] 69 (0, 0)) _ _ hy
            clear AL
            go_wp2
            go_quiet (fail)
            go_wp2
            go_roundg k2
            case measure => omega
            case rel => exact ⟨wrap64 (y + 1), B', rfl, ⟨by have := HA2.out; have := HLT2.out; have := HM.out; unfold wrap64; omega, by have := HA2.out; have := HLT2.out; have := HM.out; unfold wrap64; omega, HA2.out.2.2.1, by rw [← HA2.out.2.2.2, reach_no HA2.out.1 HLT2.out HM.out (fun h => absurd h.1 (by have := HW.out; omega))]⟩, ⟨blk_drewN (blk_alloc HK1'.out _) _⟩, ⟨blk_drewN (blk_alloc HK0'.out _) _⟩, ⟨pw_below_drewN (below_alloc HB'.out _) _⟩⟩
        · have d0 : decide (y < (l0.length : Int)) = false := decide_eq_false hlt2
          have HLT2 := Aside0.mk hlt2
          clear hlt2
          go_wp2
          
          go_roundg k1
          case measure => omega
          case rel =>
            obtain rfl : gk = 0 := by have := HA2.out; have := HLT2.out; omega
            refine ⟨wrap64 (x + 1), B', rfl, ⟨by have := HA.out; have := HLT.out; have := HM.out; unfold wrap64; omega, by have := HA.out; have := HLT.out; have := HM.out; unfold wrap64; omega, HA2.out.2.2.1, ?_⟩, HK1', HK0', HB'⟩
            rw [← HA.out.2.2.2]
            show _ = reachAll l0 l1 a3 k1 (reachPass l0 l1 a3 l0.length 0 B)
            rw [← HA2.out.2.2.2]
            rfl
    · have d0 : decide (x < (l0.length : Int)) = false := decide_eq_false hlt
      have HLT := Aside0.mk hlt
      clear hlt
      obtain rfl : gk = 0 := by have := HA.out; have := HLT.out; omega
      obtain rfl : B = r := HA.out.2.2.2
      obtain ⟨b0, b1, b2, b3, b4, b5, b6, b7, hb8⟩ : ∃ b0 b1 b2 b3 b4 b5 b6 b7, B = [b0, b1, b2, b3, b4, b5, b6, b7] := by
        have h8 := HA.out.2.2.1
        match B, h8 with
        | [b0, b1, b2, b3, b4, b5, b6, b7], _ => exact ⟨_, _, _, _, _, _, _, _, rfl⟩
      have HK1c : Aside0 (wr.heap[w.heap.size + 1]? = some (.cells #[.bool b0, .bool b1, .bool b2, .bool b3, .bool b4, .bool b5, .bool b6, .bool b7] 91 (0, 0))) := ⟨HK1.out.trans (by rw [hb8]; rfl)⟩
      have HEND : Aside0 (arrOf B = #[.bool b0, .bool b1, .bool b2, .bool b3, .bool b4, .bool b5, .bool b6, .bool b7]) := ⟨by rw [hb8]; rfl⟩
      clear hb8
      have e0 : wr.cell? ⟨w.heap.size + 1, 0, none⟩ = some (.bool b0) := (blk_cell HK1c.out 0).trans rfl
      have e1 : wr.cell? ⟨w.heap.size + 1, 1, none⟩ = some (.bool b1) := (blk_cell HK1c.out 1).trans rfl
      have e2 : wr.cell? ⟨w.heap.size + 1, 2, none⟩ = some (.bool b2) := (blk_cell HK1c.out 2).trans rfl
      have e3 : wr.cell? ⟨w.heap.size + 1, 3, none⟩ = some (.bool b3) := (blk_cell HK1c.out 3).trans rfl
      have e4 : wr.cell? ⟨w.heap.size + 1, 4, none⟩ = some (.bool b4) := (blk_cell HK1c.out 4).trans rfl
      have e5 : wr.cell? ⟨w.heap.size + 1, 5, none⟩ = some (.bool b5) := (blk_cell HK1c.out 5).trans rfl
      have e6 : wr.cell? ⟨w.heap.size + 1, 6, none⟩ = some (.bool b6) := (blk_cell HK1c.out 6).trans rfl
      have e7 : wr.cell? ⟨w.heap.size + 1, 7, none⟩ = some (.bool b7) := (blk_cell HK1c.out 7).trans rfl
      have f0 : wr.cell? ⟨w.heap.size, 0, none⟩ = some (.bool false) := (blk_cell HK0.out 0).trans rfl
      have f1 : wr.cell? ⟨w.heap.size, 1, none⟩ = some (.bool false) := (blk_cell HK0.out 1).trans rfl
      have f2 : wr.cell? ⟨w.heap.size, 2, none⟩ = some (.bool false) := (blk_cell HK0.out 2).trans rfl
      have f3 : wr.cell? ⟨w.heap.size, 3, none⟩ = some (.bool false) := (blk_cell HK0.out 3).trans rfl
      have f4 : wr.cell? ⟨w.heap.size, 4, none⟩ = some (.bool false) := (blk_cell HK0.out 4).trans rfl
      have f5 : wr.cell? ⟨w.heap.size, 5, none⟩ = some (.bool false) := (blk_cell HK0.out 5).trans rfl
      have f6 : wr.cell? ⟨w.heap.size, 6, none⟩ = some (.bool false) := (blk_cell HK0.out 6).trans rfl
      have f7 : wr.cell? ⟨w.heap.size, 7, none⟩ = some (.bool false) := (blk_cell HK0.out 7).trans rfl
      have g0 : wr.frozen? ⟨w.heap.size, 0, none⟩ = false := blk_frozen HK0.out 0
      have g1 : wr.frozen? ⟨w.heap.size, 1, none⟩ = false := blk_frozen HK0.out 1
      have g2 : wr.frozen? ⟨w.heap.size, 2, none⟩ = false := blk_frozen HK0.out 2
      have g3 : wr.frozen? ⟨w.heap.size, 3, none⟩ = false := blk_frozen HK0.out 3
      have g4 : wr.frozen? ⟨w.heap.size, 4, none⟩ = false := blk_frozen HK0.out 4
      have g5 : wr.frozen? ⟨w.heap.size, 5, none⟩ = false := blk_frozen HK0.out 5
      have g6 : wr.frozen? ⟨w.heap.size, 6, none⟩ = false := blk_frozen HK0.out 6
      have g7 : wr.frozen? ⟨w.heap.size, 7, none⟩ = false := blk_frozen HK0.out 7
      go_wp2
      refine bodyPost_ret (results_cell_row rfl _ _ w.heap.size 91 #[.bool b0, .bool b1, .bool b2, .bool b3, .bool b4, .bool b5, .bool b6, .bool b7] (0, 0) _ rfl ((blk_set (blk_set (blk_set (blk_set (blk_set (blk_set (blk_set (blk_set HK0.out 0 (.bool b0)) 1 (.bool b1)) 2 (.bool b2)) 3 (.bool b3)) 4 (.bool b4)) 5 (.bool b5)) 6 (.bool b6)) 7 (.bool b7)).trans rfl) hu84 rfl (by kernel_rfl)) rfl ?_
      exact ⟨by rw [HEND.out], ((((((((HB.out).setCell (p := ⟨w.heap.size, 0, none⟩) (Nat.le_refl _) _).setCell (p := ⟨w.heap.size, 1, none⟩) (Nat.le_refl _) _).setCell (p := ⟨w.heap.size, 2, none⟩) (Nat.le_refl _) _).setCell (p := ⟨w.heap.size, 3, none⟩) (Nat.le_refl _) _).setCell (p := ⟨w.heap.size, 4, none⟩) (Nat.le_refl _) _).setCell (p := ⟨w.heap.size, 5, none⟩) (Nat.le_refl _) _).setCell (p := ⟨w.heap.size, 6, none⟩) (Nat.le_refl _) _).setCell (p := ⟨w.heap.size, 7, none⟩) (Nat.le_refl _) _⟩
theorem reachAll_length (l0 : List S69) (l1 : List Int) (width : Int) : ∀ m B, (reachAll l0 l1 width m B).length = B.length
  | 0, _ => rfl
  | m + 1, B => by
    simp only [reachAll]
    rw [reachAll_length l0 l1 width m, reachPass_length]
theorem run_indexA_0 (b0 b1 b2 b3 b4 b5 b6 b7 : Bool) (w : World) : (Instr.index 91 (.agg #[.bool b0, .bool b1, .bool b2, .bool b3, .bool b4, .bool b5, .bool b6, .bool b7]) (.int .i64 0)).run Try.prog w = .ok (.bool b0) w := by kernel_rfl
theorem run_indexA_1 (b0 b1 b2 b3 b4 b5 b6 b7 : Bool) (w : World) : (Instr.index 91 (.agg #[.bool b0, .bool b1, .bool b2, .bool b3, .bool b4, .bool b5, .bool b6, .bool b7]) (.int .i64 1)).run Try.prog w = .ok (.bool b1) w := by kernel_rfl
theorem run_indexA_2 (b0 b1 b2 b3 b4 b5 b6 b7 : Bool) (w : World) : (Instr.index 91 (.agg #[.bool b0, .bool b1, .bool b2, .bool b3, .bool b4, .bool b5, .bool b6, .bool b7]) (.int .i64 2)).run Try.prog w = .ok (.bool b2) w := by kernel_rfl
theorem run_indexA_3 (b0 b1 b2 b3 b4 b5 b6 b7 : Bool) (w : World) : (Instr.index 91 (.agg #[.bool b0, .bool b1, .bool b2, .bool b3, .bool b4, .bool b5, .bool b6, .bool b7]) (.int .i64 3)).run Try.prog w = .ok (.bool b3) w := by kernel_rfl
theorem run_indexA_4 (b0 b1 b2 b3 b4 b5 b6 b7 : Bool) (w : World) : (Instr.index 91 (.agg #[.bool b0, .bool b1, .bool b2, .bool b3, .bool b4, .bool b5, .bool b6, .bool b7]) (.int .i64 4)).run Try.prog w = .ok (.bool b4) w := by kernel_rfl
theorem run_indexA_5 (b0 b1 b2 b3 b4 b5 b6 b7 : Bool) (w : World) : (Instr.index 91 (.agg #[.bool b0, .bool b1, .bool b2, .bool b3, .bool b4, .bool b5, .bool b6, .bool b7]) (.int .i64 5)).run Try.prog w = .ok (.bool b5) w := by kernel_rfl
theorem run_indexA_6 (b0 b1 b2 b3 b4 b5 b6 b7 : Bool) (w : World) : (Instr.index 91 (.agg #[.bool b0, .bool b1, .bool b2, .bool b3, .bool b4, .bool b5, .bool b6, .bool b7]) (.int .i64 6)).run Try.prog w = .ok (.bool b6) w := by kernel_rfl
theorem run_indexA_7 (b0 b1 b2 b3 b4 b5 b6 b7 : Bool) (w : World) : (Instr.index 91 (.agg #[.bool b0, .bool b1, .bool b2, .bool b3, .bool b4, .bool b5, .bool b6, .bool b7]) (.int .i64 7)).run Try.prog w = .ok (.bool b7) w := by kernel_rfl
theorem run_indexA (B : List Bool) (h8 : B.length = 8) (i : Int) (h0 : 0 ≤ i) (h7 : i ≤ 7) (w : World) : (Instr.index 91 (.agg (arrOf B)) (.int .i64 i)).run Try.prog w = .ok (.bool (B.getD i.toNat false)) w := by
  match B, h8 with
  | [b0, b1, b2, b3, b4, b5, b6, b7], _ =>
    have h : i = 0 ∨ i = 1 ∨ i = 2 ∨ i = 3 ∨ i = 4 ∨ i = 5 ∨ i = 6 ∨ i = 7 := by omega
    rcases h with rfl | rfl | rfl | rfl | rfl | rfl | rfl | rfl
    · exact run_indexA_0 b0 b1 b2 b3 b4 b5 b6 b7 w
    · exact run_indexA_1 b0 b1 b2 b3 b4 b5 b6 b7 w
    · exact run_indexA_2 b0 b1 b2 b3 b4 b5 b6 b7 w
    · exact run_indexA_3 b0 b1 b2 b3 b4 b5 b6 b7 w
    · exact run_indexA_4 b0 b1 b2 b3 b4 b5 b6 b7 w
    · exact run_indexA_5 b0 b1 b2 b3 b4 b5 b6 b7 w
    · exact run_indexA_6 b0 b1 b2 b3 b4 b5 b6 b7 w
    · exact run_indexA_7 b0 b1 b2 b3 b4 b5 b6 b7 w
def reachOf (l0 : List S69) (l1 : List Int) (from_ width : Int) : List Bool := reachAll l0 l1 width l0.length ((List.replicate 8 false).set from_.toNat true)
theorem reachOf_length (l0 : List S69) (l1 : List Int) (from_ width : Int) : (reachOf l0 l1 from_ width).length = 8 := by
  unfold reachOf
  rw [reachAll_length]
  simp
def memFrom (B : List Bool) : Nat → Nat → List Int → List Int
  | 0, _, acc => acc
  | d + 1, i, acc => memFrom B d (i + 1) (if B.getD i false = true then acc ++ [(i : Int)] else acc)
/-- The stations that hang together with one. -/
def hangOf (l0 : List S69) (a : Int) : List Bool := reachOf l0 (List.replicate l0.length 0) a 0
def hangOk (l0 : List S69) (a : Int) : Bool := reachOk l0 (List.replicate l0.length 0) a && decide (l0.length ≤ 12)


/-! ### impl_legsAt: function 83 -/
def impl_legsAt.l0 : Nat → Int → List Int → List (S69) → Int → Int → Option (List Int)
  | 0, _, _, _, _, _ => none
  | k + 1, x1, x5, x8, x9, x10 => if x10 < x9 then (if 0 ≤ x10 then (if x10 < (x8.length : Int) then (if ((rd_T69 x8 x10).f0) = x1 then (if x5.length < 17592186044416 then (impl_legsAt.l0 k x1 (x5 ++ [x10]) x8 x9 (wrap64 (x10 + 1))) else (none)) else (if ((rd_T69 x8 x10).f1) = x1 then (if x5.length < 17592186044416 then (impl_legsAt.l0 k x1 (x5 ++ [x10]) x8 x9 (wrap64 (x10 + 1))) else (none)) else (impl_legsAt.l0 k x1 x5 x8 x9 (wrap64 (x10 + 1))))) else (none)) else (none)) else (some x5)
def impl_legsAt.f (k : Nat) (l0 : List (S69)) (a1 : Int) : Option (List Int) := impl_legsAt.l0 k a1 ([] : List Int) l0 (l0.length : Int) 0
theorem impl_legsAt.mono_l : ∀ k, (∀ y0 y1 y2 y3 y4, LeO (impl_legsAt.l0 k y0 y1 y2 y3 y4) (impl_legsAt.l0 (k + 1) y0 y1 y2 y3 y4))
  | 0 => fun _ _ _ _ _ r h => by simp [impl_legsAt.l0] at h
  | k + 1 => by
    have ih0 := impl_legsAt.mono_l k
    · intro y0 y1 y2 y3 y4
      unfold impl_legsAt.l0
      repeat' first
      | (with_reducible exact ih0 _ _ _ _ _)
      | (with_reducible exact LeO.refl _)
      | (with_reducible exact LeO.none _)
      | (with_reducible refine LeO.ite ?_ ?_)
      | (with_reducible refine LeO.bind ?_ (fun _ => ?_))
      | exact ih0 _ _ _ _ _
      | exact LeO.none _
      | refine LeO.ite ?_ ?_
      | refine LeO.bind ?_ (fun _ => ?_)
theorem impl_legsAt.mono : ∀ a0 a1 k, LeO (impl_legsAt.f k a0 a1) (impl_legsAt.f (k + 1) a0 a1) := by
  intro a0 a1 k
  have ih0 := impl_legsAt.mono_l k
  unfold impl_legsAt.f
  repeat' first
      | (with_reducible exact ih0 _ _ _ _ _)
      | (with_reducible exact LeO.refl _)
      | (with_reducible exact LeO.none _)
      | (with_reducible refine LeO.ite ?_ ?_)
      | (with_reducible refine LeO.bind ?_ (fun _ => ?_))
      | exact ih0 _ _ _ _ _
      | exact LeO.none _
      | refine LeO.ite ?_ ?_
      | refine LeO.bind ?_ (fun _ => ?_)
set_option maxHeartbeats 8000000 in
set_option maxRecDepth 100000 in
theorem impl_legsAt.calls (k : Nat) (A0 : Option Addr) (c0 : Nat) (l0 : List (S69)) (a1 : Int) (r : List Int) (w : World) (hr0 : Kd.C k69 w A0 l0.length l0) (hc0 : l0.length ≤ c0) (h : impl_legsAt.f k l0 a1 = some r) :
    Calls Try.prog 83 #[.slice A0 l0.length c0, .int .i64 a1] w fun e w' => ∃ v0_ : Value, e = .returned (v0_) ∧ Kd.R (Kd.int .i64) 3 w' w.heap.size (fun _ => True) v0_ r ∧ Below w.heap.size w w' := by
  have hu69 := Try.underlying69
  have HR0 := Aside0.mk hr0
  have HC0 := Aside0.mk hc0
  clear hr0 hc0
  have HB := Aside0.mk (Below.refl w.heap.size w)
  have H : (impl_legsAt.l0 k a1 ([] : List Int) l0 (l0.length : Int) 0) = some r := h
  clear h
  have H' := Aside0.mk H
  clear H
  go_enter Try.func83, Try.ntmps83
  go_wp2
  go_loopg [5, 10] k (fun kq v5 v10 w' => ∃ (x5_1 : List Int) (x10_1 : Int), v10 = .int .i64 x10_1 ∧ Aside0 (impl_legsAt.l0 kq a1 x5_1 l0 (l0.length : Int) x10_1 = some r) ∧ Aside0 (kq ≤ k) ∧ Aside0 (Kd.R (Kd.int .i64) 3 w' w.heap.size (fun _ => True) v5 x5_1) ∧ Aside0 (Below w.heap.size w w'))
  case atStart => exact ⟨(([] : List Int)), (0), (by first | rfl | (simp; done) | (simp [*]; done)), H', ⟨Nat.le_refl _⟩, ⟨by first | exact Kd.R_nil _ _ _ _ _ | exact Kd.N_nil _ _ _ _ _ | exact Kd.V_nil _ _ _ _ _ | exact Kd.Q_nil _ _ _ _ _ | exact Kd.S_nil _ _ _ _ _⟩, ⟨by repeat (first | (with_reducible first | exact HB.out | apply below_alloc | apply pw_below_drewN | apply below_drew1) | exact HB.out)⟩⟩
  case round =>
    clear H'
    try clear p2
    obtain ⟨x5_1, x10_1, rfl, HA, HK1, HO_5, HB⟩ := hrel
    cases gk with
    | zero => exact absurd HA.out (by simp [impl_legsAt.l0])
    | succ k1 =>
      have H := HA.out
      clear HA
      simp only [impl_legsAt.l0] at H
      by_cases c3 : x10_1 < (l0.length : Int)
      · rw [if_pos c3] at H
        have c3b0 : decide (x10_1 < (l0.length : Int)) = true := decide_eq_true c3
        clear c3
        by_cases c4 : 0 ≤ x10_1
        · rw [if_pos c4] at H
          have c4b0 : decide (0 ≤ x10_1) = true := decide_eq_true c4
          clear c4
          by_cases c5 : x10_1 < (l0.length : Int)
          · rw [if_pos c5] at H
            have c5b0 : decide (x10_1 < (l0.length : Int)) = true := decide_eq_true c5
            clear c5
            by_cases c6 : ((rd_T69 l0 x10_1).f0) = a1
            · rw [if_pos c6] at H
              have c6b0 : (((rd_T69 l0 x10_1).f0) == a1) = true := beq_iff_eq.mpr c6
              have c6b1 : (((rd_T69 l0 x10_1).f0) != a1) = false := bne_eq_false_iff_eq.mpr c6
              clear c6
              by_cases c7 : x5_1.length < 17592186044416
              · rw [if_pos c7] at H
                have LMc7 := Aside0.mk c7
                clear c7
                obtain ⟨y233, hy233⟩ : ∃ y_ : List Int, y_ = (x5_1 ++ [x10_1]) := ⟨_, rfl⟩
                replace H : (impl_legsAt.l0 k1 a1 y233 l0 (l0.length : Int) (wrap64 (x10_1 + 1))) = some r := by first | (rw [hy233]; with_reducible exact H) | (have H2_ := (Option.bind_some _ _).symm.trans H; rw [hy233]; with_reducible exact H2_) | (have H2_ := (Option.bind_some _ _).symm.trans H; with_reducible exact H2_) | with_reducible exact H | (rw [hy233]; exact H) | exact H
                have Ny233 := Aside0.mk hy233
                clear hy233
                have H' := Aside0.mk H
                clear H
                have p231 : 0 ≤ (x10_1 : Int) := of_decide_eq_true (by first | (with_reducible assumption) | assumption)
                have q231 : x10_1 < (l0.length : Int) := of_decide_eq_true (by first | (with_reducible assumption) | assumption)
                obtain ⟨ad231, e231, hx231_0, hx231_1, hx231_2, hx231_3, hx231_4⟩ := at_T69 HR0.out x10_1 p231 q231
                cases e231
                replace hx231_0 := (HB.out.cell (World.block_lt_of_cell? w _ hx231_0)).trans hx231_0
                replace hx231_1 := (HB.out.cell (World.block_lt_of_cell? w _ hx231_1)).trans hx231_1
                replace hx231_2 := (HB.out.cell (World.block_lt_of_cell? w _ hx231_2)).trans hx231_2
                replace hx231_3 := (HB.out.cell (World.block_lt_of_cell? w _ hx231_3)).trans hx231_3
                replace hx231_4 := (HB.out.cell (World.block_lt_of_cell? w _ hx231_4)).trans hx231_4
                replace p231 := eq_true p231
                replace q231 := eq_true q231
                go_wp2_with (first | ((with_reducible refine gate_dst (N := 7) rfl ?_); refine box_event ?hg (N := 7) ?hd (cs := #[.int .i64 0, .int .i64 0, .int .i64 0, .int .i64 0, .int .i64 0]) (t := 69) ?hr ?_; (case hd => rfl); (case hg => rfl); (case hr => first | (go_simp; done) | (go_simp; rfl)); intro gb232 hg w8 hbox hb; have n0_ := Aside0.mk (Kd.R_below (by (with_reducible repeat (first | apply Kd.R_alloc | apply Kd.R_drewN | apply Kd.R_drew)); exact HO_5.out) hb); have n1_ := Aside0.mk (below_step (by repeat (first | (with_reducible first | exact HB.out | apply below_alloc | apply pw_below_drewN | apply below_drew1) | exact HB.out)) hb); have n2_ := Aside0.mk (hbox); have n3_ := Aside0.mk ((by rw [hg]; exact (below_size (by repeat (first | (with_reducible first | exact HB.out | apply below_alloc | apply pw_below_drewN | apply below_drew1) | exact HB.out))) : w.heap.size ≤ gb232)); have n4_ := Aside0.mk ((by rw [hg]; exact (below_size (by repeat (first | (with_reducible first | exact HB.out | apply below_alloc | apply pw_below_drewN | apply below_drew1) | exact HB.out))) : w.heap.size ≤ gb232)); clear HO_5; clear HB; have HO_5 := n0_; have HB := n1_; have BK232 := n2_; have GW232 := n3_; have GE232 := n4_; clear n0_ n1_ n2_ n3_ n4_; clear hb hbox hg; have hcz9_0 : w8.cell? ⟨gb232, 0, none⟩ = some (.int .i64 0) := (blk_cell BK232.out 0).trans rfl; have hcz9_1 : w8.cell? ⟨gb232, 1, none⟩ = some (.int .i64 0) := (blk_cell BK232.out 1).trans rfl; have hcz9_2 : w8.cell? ⟨gb232, 2, none⟩ = some (.int .i64 0) := (blk_cell BK232.out 2).trans rfl; have hcz9_3 : w8.cell? ⟨gb232, 3, none⟩ = some (.int .i64 0) := (blk_cell BK232.out 3).trans rfl; have hcz9_4 : w8.cell? ⟨gb232, 4, none⟩ = some (.int .i64 0) := (blk_cell BK232.out 4).trans rfl; have hfz9_0 := blk_frozen BK232.out 0; have hfz9_1 := blk_frozen BK232.out 1; have hfz9_2 := blk_frozen BK232.out 2; have hfz9_3 := blk_frozen BK232.out 3; have hfz9_4 := blk_frozen BK232.out 4) | ((with_reducible refine gate_builtin (b := .append) (xs := #[.tmp 25, .tmp 27]) rfl ?_); at_builtin; refine Kd.R_append (Kd.int .i64) (w0 := w) w.heap.size rfl (.tmp 25) (.tmp 27) 35 3 (.int .i64 0) 8 rfl Try.underlying35 info3 rfl (by decide) (by omega) u5 x5_1 x10_1 [.int .i64 x10_1] (fun _ => True) (fun _ => False) rfl (by first | (go_simp; done) | (go_simp; rfl)) ?aP (fun _ hk => hk.elim) ?aF ?aO ?aB ?aS ?aL ?_; (case aP => exact rfl); (case aB => exact (by repeat (first | (with_reducible first | exact HB.out | apply below_alloc | apply pw_below_drewN | apply below_drew1 | refine below_set ?_ GE232.out) | exact HB.out))); (case aF => exact (fun _ _ => trivial)); (case aO => exact (by (with_reducible repeat (first | apply Kd.R_alloc | apply Kd.R_drewN | apply Kd.R_drew)); exact Kd.R_mono (Kd.R_far (p := ⟨gb232, 4, none⟩) (Kd.R_far (p := ⟨gb232, 3, none⟩) (Kd.R_far (p := ⟨gb232, 2, none⟩) (Kd.R_far (p := ⟨gb232, 1, none⟩) (Kd.R_far (p := ⟨gb232, 0, none⟩) (Kd.R_types HO_5.out BK232.out (by decide)) (fun _ hk => hk.2) (.int .i64 ((rd_T69 l0 x10_1).f0))) (fun _ hk => hk.2) (.int .i64 ((rd_T69 l0 x10_1).f1))) (fun _ hk => hk.2) (.int .i64 ((rd_T69 l0 x10_1).f2))) (fun _ hk => hk.2) (.int .i64 ((rd_T69 l0 x10_1).f3))) (fun _ hk => hk.2) (.int .i64 ((rd_T69 l0 x10_1).f4))) (fun _ hk => trivial))); (case aS => exact (below_size (by repeat (first | (with_reducible first | exact HB.out | apply below_alloc | apply pw_below_drewN | apply below_drew1 | refine below_set ?_ GE232.out) | exact HB.out)))); (case aL => have := LMc7.out; omega); intro v234 w10 ho hb hg hat; rw [← Ny233.out] at ho; have n0_ := Aside0.mk (blk_grown (g := gb232) (o := .cells #[.int .i64 ((rd_T69 l0 x10_1).f0), .int .i64 ((rd_T69 l0 x10_1).f1), .int .i64 ((rd_T69 l0 x10_1).f2), .int .i64 ((rd_T69 l0 x10_1).f3), .int .i64 ((rd_T69 l0 x10_1).f4)] 69 (0, 0)) (by (with_reducible repeat (first | refine blk_drewN ?_ _ | refine blk_drew ?_ | refine blk_alloc ?_ _)); refine blk_put (cs := #[.int .i64 ((rd_T69 l0 x10_1).f0), .int .i64 ((rd_T69 l0 x10_1).f1), .int .i64 ((rd_T69 l0 x10_1).f2), .int .i64 ((rd_T69 l0 x10_1).f3), .int .i64 0]) ?_ 4 _ rfl; (with_reducible repeat (first | refine blk_drewN ?_ _ | refine blk_drew ?_ | refine blk_alloc ?_ _)); refine blk_put (cs := #[.int .i64 ((rd_T69 l0 x10_1).f0), .int .i64 ((rd_T69 l0 x10_1).f1), .int .i64 ((rd_T69 l0 x10_1).f2), .int .i64 0, .int .i64 0]) ?_ 3 _ rfl; (with_reducible repeat (first | refine blk_drewN ?_ _ | refine blk_drew ?_ | refine blk_alloc ?_ _)); refine blk_put (cs := #[.int .i64 ((rd_T69 l0 x10_1).f0), .int .i64 ((rd_T69 l0 x10_1).f1), .int .i64 0, .int .i64 0, .int .i64 0]) ?_ 2 _ rfl; (with_reducible repeat (first | refine blk_drewN ?_ _ | refine blk_drew ?_ | refine blk_alloc ?_ _)); refine blk_put (cs := #[.int .i64 ((rd_T69 l0 x10_1).f0), .int .i64 0, .int .i64 0, .int .i64 0, .int .i64 0]) ?_ 1 _ rfl; (with_reducible repeat (first | refine blk_drewN ?_ _ | refine blk_drew ?_ | refine blk_alloc ?_ _)); refine blk_put (cs := #[.int .i64 0, .int .i64 0, .int .i64 0, .int .i64 0, .int .i64 0]) ?_ 0 _ rfl; (with_reducible repeat (first | refine blk_drewN ?_ _ | refine blk_drew ?_ | refine blk_alloc ?_ _)); exact BK232.out) hg (Kd.R_ne HO_5.out BK232.out (by decide))); have n1_ := Aside0.mk (hb); have n2_ := Aside0.mk (ho); clear BK232; clear HB; clear HO_5; have BK232 := n0_; have HB := n1_; have HO235 := n2_; clear n0_ n1_ n2_; clear ho hb hg hat))
                go_roundg k1
                case measure => have := HK1.out; omega
                case rel => exact ⟨(y233), (wrap64 (x10_1 + 1)), (by first | rfl | (simp; done) | (simp [*]; done)), H', ⟨by have := HK1.out; omega⟩, ⟨by (with_reducible repeat (first | apply Kd.R_alloc | apply Kd.R_drewN | apply Kd.R_drew)); exact HO235.out⟩, ⟨by repeat (first | (with_reducible first | exact HB.out | apply below_alloc | apply pw_below_drewN | apply below_drew1 | refine below_set ?_ GE232.out) | exact HB.out)⟩⟩
              · rw [if_neg c7] at H
                exact absurd H (by simp)
            · rw [if_neg c6] at H
              have c6b0 : (((rd_T69 l0 x10_1).f0) == a1) = false := beq_eq_false_iff_ne.mpr c6
              have c6b1 : (((rd_T69 l0 x10_1).f0) != a1) = true := bne_iff_ne.mpr c6
              by_cases c11 : ((rd_T69 l0 x10_1).f1) = a1
              · rw [if_pos c11] at H
                have c11b0 : (((rd_T69 l0 x10_1).f1) == a1) = true := beq_iff_eq.mpr c11
                have c11b1 : (((rd_T69 l0 x10_1).f1) != a1) = false := bne_eq_false_iff_eq.mpr c11
                clear c11
                by_cases c12 : x5_1.length < 17592186044416
                · rw [if_pos c12] at H
                  have LMc12 := Aside0.mk c12
                  clear c12
                  obtain ⟨y236, hy236⟩ : ∃ y_ : List Int, y_ = (x5_1 ++ [x10_1]) := ⟨_, rfl⟩
                  replace H : (impl_legsAt.l0 k1 a1 y236 l0 (l0.length : Int) (wrap64 (x10_1 + 1))) = some r := by first | (rw [hy236]; with_reducible exact H) | (have H2_ := (Option.bind_some _ _).symm.trans H; rw [hy236]; with_reducible exact H2_) | (have H2_ := (Option.bind_some _ _).symm.trans H; with_reducible exact H2_) | with_reducible exact H | (rw [hy236]; exact H) | exact H
                  have Ny236 := Aside0.mk hy236
                  clear hy236
                  have H' := Aside0.mk H
                  clear H
                  have p231 : 0 ≤ (x10_1 : Int) := of_decide_eq_true (by first | (with_reducible assumption) | assumption)
                  have q231 : x10_1 < (l0.length : Int) := of_decide_eq_true (by first | (with_reducible assumption) | assumption)
                  obtain ⟨ad231, e231, hx231_0, hx231_1, hx231_2, hx231_3, hx231_4⟩ := at_T69 HR0.out x10_1 p231 q231
                  cases e231
                  replace hx231_0 := (HB.out.cell (World.block_lt_of_cell? w _ hx231_0)).trans hx231_0
                  replace hx231_1 := (HB.out.cell (World.block_lt_of_cell? w _ hx231_1)).trans hx231_1
                  replace hx231_2 := (HB.out.cell (World.block_lt_of_cell? w _ hx231_2)).trans hx231_2
                  replace hx231_3 := (HB.out.cell (World.block_lt_of_cell? w _ hx231_3)).trans hx231_3
                  replace hx231_4 := (HB.out.cell (World.block_lt_of_cell? w _ hx231_4)).trans hx231_4
                  replace p231 := eq_true p231
                  replace q231 := eq_true q231
                  go_wp2_with (first | ((with_reducible refine gate_dst (N := 7) rfl ?_); refine box_event ?hg (N := 7) ?hd (cs := #[.int .i64 0, .int .i64 0, .int .i64 0, .int .i64 0, .int .i64 0]) (t := 69) ?hr ?_; (case hd => rfl); (case hg => rfl); (case hr => first | (go_simp; done) | (go_simp; rfl)); intro gb232 hg w13 hbox hb; have n0_ := Aside0.mk (Kd.R_below (by (with_reducible repeat (first | apply Kd.R_alloc | apply Kd.R_drewN | apply Kd.R_drew)); exact HO_5.out) hb); have n1_ := Aside0.mk (below_step (by repeat (first | (with_reducible first | exact HB.out | apply below_alloc | apply pw_below_drewN | apply below_drew1) | exact HB.out)) hb); have n2_ := Aside0.mk (hbox); have n3_ := Aside0.mk ((by rw [hg]; exact (below_size (by repeat (first | (with_reducible first | exact HB.out | apply below_alloc | apply pw_below_drewN | apply below_drew1) | exact HB.out))) : w.heap.size ≤ gb232)); have n4_ := Aside0.mk ((by rw [hg]; exact (below_size (by repeat (first | (with_reducible first | exact HB.out | apply below_alloc | apply pw_below_drewN | apply below_drew1) | exact HB.out))) : w.heap.size ≤ gb232)); clear HO_5; clear HB; have HO_5 := n0_; have HB := n1_; have BK232 := n2_; have GW232 := n3_; have GE232 := n4_; clear n0_ n1_ n2_ n3_ n4_; clear hb hbox hg; have hcz14_0 : w13.cell? ⟨gb232, 0, none⟩ = some (.int .i64 0) := (blk_cell BK232.out 0).trans rfl; have hcz14_1 : w13.cell? ⟨gb232, 1, none⟩ = some (.int .i64 0) := (blk_cell BK232.out 1).trans rfl; have hcz14_2 : w13.cell? ⟨gb232, 2, none⟩ = some (.int .i64 0) := (blk_cell BK232.out 2).trans rfl; have hcz14_3 : w13.cell? ⟨gb232, 3, none⟩ = some (.int .i64 0) := (blk_cell BK232.out 3).trans rfl; have hcz14_4 : w13.cell? ⟨gb232, 4, none⟩ = some (.int .i64 0) := (blk_cell BK232.out 4).trans rfl; have hfz14_0 := blk_frozen BK232.out 0; have hfz14_1 := blk_frozen BK232.out 1; have hfz14_2 := blk_frozen BK232.out 2; have hfz14_3 := blk_frozen BK232.out 3; have hfz14_4 := blk_frozen BK232.out 4) | ((with_reducible refine gate_builtin (b := .append) (xs := #[.tmp 25, .tmp 27]) rfl ?_); at_builtin; refine Kd.R_append (Kd.int .i64) (w0 := w) w.heap.size rfl (.tmp 25) (.tmp 27) 35 3 (.int .i64 0) 8 rfl Try.underlying35 info3 rfl (by decide) (by omega) u5 x5_1 x10_1 [.int .i64 x10_1] (fun _ => True) (fun _ => False) rfl (by first | (go_simp; done) | (go_simp; rfl)) ?aP (fun _ hk => hk.elim) ?aF ?aO ?aB ?aS ?aL ?_; (case aP => exact rfl); (case aB => exact (by repeat (first | (with_reducible first | exact HB.out | apply below_alloc | apply pw_below_drewN | apply below_drew1 | refine below_set ?_ GE232.out) | exact HB.out))); (case aF => exact (fun _ _ => trivial)); (case aO => exact (by (with_reducible repeat (first | apply Kd.R_alloc | apply Kd.R_drewN | apply Kd.R_drew)); exact Kd.R_mono (Kd.R_far (p := ⟨gb232, 4, none⟩) (Kd.R_far (p := ⟨gb232, 3, none⟩) (Kd.R_far (p := ⟨gb232, 2, none⟩) (Kd.R_far (p := ⟨gb232, 1, none⟩) (Kd.R_far (p := ⟨gb232, 0, none⟩) (Kd.R_types HO_5.out BK232.out (by decide)) (fun _ hk => hk.2) (.int .i64 ((rd_T69 l0 x10_1).f0))) (fun _ hk => hk.2) (.int .i64 ((rd_T69 l0 x10_1).f1))) (fun _ hk => hk.2) (.int .i64 ((rd_T69 l0 x10_1).f2))) (fun _ hk => hk.2) (.int .i64 ((rd_T69 l0 x10_1).f3))) (fun _ hk => hk.2) (.int .i64 ((rd_T69 l0 x10_1).f4))) (fun _ hk => trivial))); (case aS => exact (below_size (by repeat (first | (with_reducible first | exact HB.out | apply below_alloc | apply pw_below_drewN | apply below_drew1 | refine below_set ?_ GE232.out) | exact HB.out)))); (case aL => have := LMc12.out; omega); intro v237 w15 ho hb hg hat; rw [← Ny236.out] at ho; have n0_ := Aside0.mk (blk_grown (g := gb232) (o := .cells #[.int .i64 ((rd_T69 l0 x10_1).f0), .int .i64 ((rd_T69 l0 x10_1).f1), .int .i64 ((rd_T69 l0 x10_1).f2), .int .i64 ((rd_T69 l0 x10_1).f3), .int .i64 ((rd_T69 l0 x10_1).f4)] 69 (0, 0)) (by (with_reducible repeat (first | refine blk_drewN ?_ _ | refine blk_drew ?_ | refine blk_alloc ?_ _)); refine blk_put (cs := #[.int .i64 ((rd_T69 l0 x10_1).f0), .int .i64 ((rd_T69 l0 x10_1).f1), .int .i64 ((rd_T69 l0 x10_1).f2), .int .i64 ((rd_T69 l0 x10_1).f3), .int .i64 0]) ?_ 4 _ rfl; (with_reducible repeat (first | refine blk_drewN ?_ _ | refine blk_drew ?_ | refine blk_alloc ?_ _)); refine blk_put (cs := #[.int .i64 ((rd_T69 l0 x10_1).f0), .int .i64 ((rd_T69 l0 x10_1).f1), .int .i64 ((rd_T69 l0 x10_1).f2), .int .i64 0, .int .i64 0]) ?_ 3 _ rfl; (with_reducible repeat (first | refine blk_drewN ?_ _ | refine blk_drew ?_ | refine blk_alloc ?_ _)); refine blk_put (cs := #[.int .i64 ((rd_T69 l0 x10_1).f0), .int .i64 ((rd_T69 l0 x10_1).f1), .int .i64 0, .int .i64 0, .int .i64 0]) ?_ 2 _ rfl; (with_reducible repeat (first | refine blk_drewN ?_ _ | refine blk_drew ?_ | refine blk_alloc ?_ _)); refine blk_put (cs := #[.int .i64 ((rd_T69 l0 x10_1).f0), .int .i64 0, .int .i64 0, .int .i64 0, .int .i64 0]) ?_ 1 _ rfl; (with_reducible repeat (first | refine blk_drewN ?_ _ | refine blk_drew ?_ | refine blk_alloc ?_ _)); refine blk_put (cs := #[.int .i64 0, .int .i64 0, .int .i64 0, .int .i64 0, .int .i64 0]) ?_ 0 _ rfl; (with_reducible repeat (first | refine blk_drewN ?_ _ | refine blk_drew ?_ | refine blk_alloc ?_ _)); exact BK232.out) hg (Kd.R_ne HO_5.out BK232.out (by decide))); have n1_ := Aside0.mk (hb); have n2_ := Aside0.mk (ho); clear BK232; clear HB; clear HO_5; have BK232 := n0_; have HB := n1_; have HO238 := n2_; clear n0_ n1_ n2_; clear ho hb hg hat))
                  go_roundg k1
                  case measure => have := HK1.out; omega
                  case rel => exact ⟨(y236), (wrap64 (x10_1 + 1)), (by first | rfl | (simp; done) | (simp [*]; done)), H', ⟨by have := HK1.out; omega⟩, ⟨by (with_reducible repeat (first | apply Kd.R_alloc | apply Kd.R_drewN | apply Kd.R_drew)); exact HO238.out⟩, ⟨by repeat (first | (with_reducible first | exact HB.out | apply below_alloc | apply pw_below_drewN | apply below_drew1 | refine below_set ?_ GE232.out) | exact HB.out)⟩⟩
                · rw [if_neg c12] at H
                  exact absurd H (by simp)
              · rw [if_neg c11] at H
                have c11b0 : (((rd_T69 l0 x10_1).f1) == a1) = false := beq_eq_false_iff_ne.mpr c11
                have c11b1 : (((rd_T69 l0 x10_1).f1) != a1) = true := bne_iff_ne.mpr c11
                have H' := Aside0.mk H
                clear H
                have p231 : 0 ≤ (x10_1 : Int) := of_decide_eq_true (by first | (with_reducible assumption) | assumption)
                have q231 : x10_1 < (l0.length : Int) := of_decide_eq_true (by first | (with_reducible assumption) | assumption)
                obtain ⟨ad231, e231, hx231_0, hx231_1, hx231_2, hx231_3, hx231_4⟩ := at_T69 HR0.out x10_1 p231 q231
                cases e231
                replace hx231_0 := (HB.out.cell (World.block_lt_of_cell? w _ hx231_0)).trans hx231_0
                replace hx231_1 := (HB.out.cell (World.block_lt_of_cell? w _ hx231_1)).trans hx231_1
                replace hx231_2 := (HB.out.cell (World.block_lt_of_cell? w _ hx231_2)).trans hx231_2
                replace hx231_3 := (HB.out.cell (World.block_lt_of_cell? w _ hx231_3)).trans hx231_3
                replace hx231_4 := (HB.out.cell (World.block_lt_of_cell? w _ hx231_4)).trans hx231_4
                replace p231 := eq_true p231
                replace q231 := eq_true q231
                go_wp2_with (first | ((with_reducible refine gate_dst (N := 7) rfl ?_); refine box_event ?hg (N := 7) ?hd (cs := #[.int .i64 0, .int .i64 0, .int .i64 0, .int .i64 0, .int .i64 0]) (t := 69) ?hr ?_; (case hd => rfl); (case hg => rfl); (case hr => first | (go_simp; done) | (go_simp; rfl)); intro gb232 hg w16 hbox hb; have n0_ := Aside0.mk (Kd.R_below (by (with_reducible repeat (first | apply Kd.R_alloc | apply Kd.R_drewN | apply Kd.R_drew)); exact HO_5.out) hb); have n1_ := Aside0.mk (below_step (by repeat (first | (with_reducible first | exact HB.out | apply below_alloc | apply pw_below_drewN | apply below_drew1) | exact HB.out)) hb); have n2_ := Aside0.mk (hbox); have n3_ := Aside0.mk ((by rw [hg]; exact (below_size (by repeat (first | (with_reducible first | exact HB.out | apply below_alloc | apply pw_below_drewN | apply below_drew1) | exact HB.out))) : w.heap.size ≤ gb232)); have n4_ := Aside0.mk ((by rw [hg]; exact (below_size (by repeat (first | (with_reducible first | exact HB.out | apply below_alloc | apply pw_below_drewN | apply below_drew1) | exact HB.out))) : w.heap.size ≤ gb232)); clear HO_5; clear HB; have HO_5 := n0_; have HB := n1_; have BK232 := n2_; have GW232 := n3_; have GE232 := n4_; clear n0_ n1_ n2_ n3_ n4_; clear hb hbox hg; have hcz17_0 : w16.cell? ⟨gb232, 0, none⟩ = some (.int .i64 0) := (blk_cell BK232.out 0).trans rfl; have hcz17_1 : w16.cell? ⟨gb232, 1, none⟩ = some (.int .i64 0) := (blk_cell BK232.out 1).trans rfl; have hcz17_2 : w16.cell? ⟨gb232, 2, none⟩ = some (.int .i64 0) := (blk_cell BK232.out 2).trans rfl; have hcz17_3 : w16.cell? ⟨gb232, 3, none⟩ = some (.int .i64 0) := (blk_cell BK232.out 3).trans rfl; have hcz17_4 : w16.cell? ⟨gb232, 4, none⟩ = some (.int .i64 0) := (blk_cell BK232.out 4).trans rfl; have hfz17_0 := blk_frozen BK232.out 0; have hfz17_1 := blk_frozen BK232.out 1; have hfz17_2 := blk_frozen BK232.out 2; have hfz17_3 := blk_frozen BK232.out 3; have hfz17_4 := blk_frozen BK232.out 4))
                go_roundg k1
                case measure => have := HK1.out; omega
                case rel => exact ⟨(x5_1), (wrap64 (x10_1 + 1)), (by first | rfl | (simp; done) | (simp [*]; done)), H', ⟨by have := HK1.out; omega⟩, ⟨by (with_reducible repeat (first | apply Kd.R_alloc | apply Kd.R_drewN | apply Kd.R_drew)); exact Kd.R_mono (Kd.R_far (p := ⟨gb232, 4, none⟩) (Kd.R_far (p := ⟨gb232, 3, none⟩) (Kd.R_far (p := ⟨gb232, 2, none⟩) (Kd.R_far (p := ⟨gb232, 1, none⟩) (Kd.R_far (p := ⟨gb232, 0, none⟩) (Kd.R_types HO_5.out BK232.out (by decide)) (fun _ hk => hk.2) (.int .i64 ((rd_T69 l0 x10_1).f0))) (fun _ hk => hk.2) (.int .i64 ((rd_T69 l0 x10_1).f1))) (fun _ hk => hk.2) (.int .i64 ((rd_T69 l0 x10_1).f2))) (fun _ hk => hk.2) (.int .i64 ((rd_T69 l0 x10_1).f3))) (fun _ hk => hk.2) (.int .i64 ((rd_T69 l0 x10_1).f4))) (fun _ hk => trivial)⟩, ⟨by repeat (first | (with_reducible first | exact HB.out | apply below_alloc | apply pw_below_drewN | apply below_drew1 | refine below_set ?_ GE232.out) | exact HB.out)⟩⟩
          · rw [if_neg c5] at H
            exact absurd H (by simp)
        · rw [if_neg c4] at H
          exact absurd H (by simp)
      · rw [if_neg c3] at H
        have c3b0 : decide (x10_1 < (l0.length : Int)) = false := decide_eq_false c3
        clear c3
        obtain rfl := Option.some.inj H
        go_wp2
        go_ret
        exact ⟨_, by first | rfl | (simp [errW_none, errW_some] <;> rfl) | (simp [*, errW_none, errW_some] <;> rfl), by (with_reducible repeat (first | apply Kd.R_alloc | apply Kd.R_drewN | apply Kd.R_drew)); exact HO_5.out, by repeat (first | (with_reducible first | exact HB.out | apply below_alloc | apply pw_below_drewN | apply below_drew1) | exact HB.out)⟩

-- NOT PRINTED: function 98 (slices_IndexFunc_int_int_98)

-- NOT PRINTED: function 84 (slices_ContainsFunc_int_int_84)

/-! ### slices_Index_int_int: function 100 -/
def slices_Index_int_int.l0 : Nat → List Int → Int → Int → Int → Option (Int)
  | 0, _, _, _, _ => none
  | k + 1, x0, x1, x7, x8 => if x8 < x7 then (if 0 ≤ x8 then (if x8 < (x0.length : Int) then (if x1 = (rd x0 x8) then (some x8) else (slices_Index_int_int.l0 k x0 x1 x7 (wrap64 (x8 + 1)))) else (none)) else (none)) else (some (-1))
def slices_Index_int_int.f (k : Nat) (l0 : List Int) (a1 : Int) : Option (Int) := slices_Index_int_int.l0 k l0 a1 (l0.length : Int) 0
theorem slices_Index_int_int.mono_l : ∀ k, (∀ y0 y1 y2 y3, LeO (slices_Index_int_int.l0 k y0 y1 y2 y3) (slices_Index_int_int.l0 (k + 1) y0 y1 y2 y3))
  | 0 => fun _ _ _ _ r h => by simp [slices_Index_int_int.l0] at h
  | k + 1 => by
    have ih0 := slices_Index_int_int.mono_l k
    · intro y0 y1 y2 y3
      unfold slices_Index_int_int.l0
      repeat' first
      | (with_reducible exact ih0 _ _ _ _)
      | (with_reducible exact LeO.refl _)
      | (with_reducible exact LeO.none _)
      | (with_reducible refine LeO.ite ?_ ?_)
      | (with_reducible refine LeO.bind ?_ (fun _ => ?_))
      | exact ih0 _ _ _ _
      | exact LeO.none _
      | refine LeO.ite ?_ ?_
      | refine LeO.bind ?_ (fun _ => ?_)
theorem slices_Index_int_int.mono : ∀ a0 a1 k, LeO (slices_Index_int_int.f k a0 a1) (slices_Index_int_int.f (k + 1) a0 a1) := by
  intro a0 a1 k
  have ih0 := slices_Index_int_int.mono_l k
  unfold slices_Index_int_int.f
  repeat' first
      | (with_reducible exact ih0 _ _ _ _)
      | (with_reducible exact LeO.refl _)
      | (with_reducible exact LeO.none _)
      | (with_reducible refine LeO.ite ?_ ?_)
      | (with_reducible refine LeO.bind ?_ (fun _ => ?_))
      | exact ih0 _ _ _ _
      | exact LeO.none _
      | refine LeO.ite ?_ ?_
      | refine LeO.bind ?_ (fun _ => ?_)
set_option maxHeartbeats 8000000 in
set_option maxRecDepth 100000 in
theorem slices_Index_int_int.calls (k : Nat) (A0 : Option Addr) (c0 : Nat) (l0 : List Int) (a1 : Int) (r : Int) (w : World) (hr0 : Kd.C (Kd.int .i64) w A0 l0.length l0) (hc0 : l0.length ≤ c0) (h : slices_Index_int_int.f k l0 a1 = some r) :
    Calls Try.prog 100 #[.slice A0 l0.length c0, .int .i64 a1] w fun e w' => e = .returned (.int .i64 r) ∧ Drawn0 w w' := by
  have HR0 := Aside0.mk hr0
  have HC0 := Aside0.mk hc0
  clear hr0 hc0
  have H : (slices_Index_int_int.l0 k l0 a1 (l0.length : Int) 0) = some r := h
  clear h
  have H' := Aside0.mk H
  clear H
  go_enter Try.func100, Try.ntmps100
  go_wp2
  go_loopg [8] k (fun kq v8 w' => ∃ (x8_1 : Int), v8 = .int .i64 x8_1 ∧ Aside0 (slices_Index_int_int.l0 kq l0 a1 (l0.length : Int) x8_1 = some r) ∧ Aside0 (kq ≤ k) ∧ Drawn0 w w')
  case atStart => exact ⟨(0), (by first | rfl | (simp; done) | (simp [*]; done)), H', ⟨Nat.le_refl _⟩, by repeat (first | exact Drawn0.refl _ | apply Drawn0.step)⟩
  case round =>
    clear H'
    try clear c1
    try clear p2
    obtain ⟨x8_1, rfl, HA, HK1, ⟨m1, rfl⟩⟩ := hrel
    cases gk with
    | zero => exact absurd HA.out (by simp [slices_Index_int_int.l0])
    | succ k1 =>
      have H := HA.out
      clear HA
      simp only [slices_Index_int_int.l0] at H
      by_cases c3 : x8_1 < (l0.length : Int)
      · rw [if_pos c3] at H
        have c3b0 : decide (x8_1 < (l0.length : Int)) = true := decide_eq_true c3
        clear c3
        by_cases c4 : 0 ≤ x8_1
        · rw [if_pos c4] at H
          have c4b0 : decide (0 ≤ x8_1) = true := decide_eq_true c4
          clear c4
          by_cases c5 : x8_1 < (l0.length : Int)
          · rw [if_pos c5] at H
            have c5b0 : decide (x8_1 < (l0.length : Int)) = true := decide_eq_true c5
            clear c5
            by_cases c6 : a1 = (rd l0 x8_1)
            · rw [if_pos c6] at H
              have c6b0 : (a1 == (rd l0 x8_1)) = true := beq_iff_eq.mpr c6
              have c6b1 : (a1 != (rd l0 x8_1)) = false := bne_eq_false_iff_eq.mpr c6
              clear c6
              obtain rfl := Option.some.inj H
              have p239 : 0 ≤ (x8_1 : Int) := of_decide_eq_true (by first | (with_reducible assumption) | assumption)
              have q239 : x8_1 < (l0.length : Int) := of_decide_eq_true (by first | (with_reducible assumption) | assumption)
              obtain ⟨ad239, e239, hx239_0⟩ := Kd.at_int HR0.out x8_1 p239 q239
              cases e239
              replace p239 := eq_true p239
              replace q239 := eq_true q239
              go_wp2
              go_ret
              exact ⟨by first | rfl | (simp; done) | (simp [*]; done), by repeat (first | exact Drawn0.refl _ | apply Drawn0.step)⟩
            · rw [if_neg c6] at H
              have c6b0 : (a1 == (rd l0 x8_1)) = false := beq_eq_false_iff_ne.mpr c6
              have c6b1 : (a1 != (rd l0 x8_1)) = true := bne_iff_ne.mpr c6
              have H' := Aside0.mk H
              clear H
              have p239 : 0 ≤ (x8_1 : Int) := of_decide_eq_true (by first | (with_reducible assumption) | assumption)
              have q239 : x8_1 < (l0.length : Int) := of_decide_eq_true (by first | (with_reducible assumption) | assumption)
              obtain ⟨ad239, e239, hx239_0⟩ := Kd.at_int HR0.out x8_1 p239 q239
              cases e239
              replace p239 := eq_true p239
              replace q239 := eq_true q239
              go_wp2
              go_roundg k1
              case measure => have := HK1.out; omega
              case rel => exact ⟨(wrap64 (x8_1 + 1)), (by first | rfl | (simp; done) | (simp [*]; done)), H', ⟨by have := HK1.out; omega⟩, by repeat (first | exact Drawn0.refl _ | apply Drawn0.step)⟩
          · rw [if_neg c5] at H
            exact absurd H (by simp)
        · rw [if_neg c4] at H
          exact absurd H (by simp)
      · rw [if_neg c3] at H
        have c3b0 : decide (x8_1 < (l0.length : Int)) = false := decide_eq_false c3
        clear c3
        obtain rfl := Option.some.inj H
        go_wp2
        go_ret
        exact ⟨by first | rfl | (simp; done) | (simp [*]; done), by repeat (first | exact Drawn0.refl _ | apply Drawn0.step)⟩

/-! ### slices_Contains_int_int: function 91 -/
def slices_Contains_int_int.f (k : Nat) (l0 : List Int) (a1 : Int) : Option (Bool) := (slices_Index_int_int.f k l0 a1).bind fun t240 => (some (decide (t240 ≥ 0)))
theorem slices_Contains_int_int.mono : ∀ a0 a1 k, LeO (slices_Contains_int_int.f k a0 a1) (slices_Contains_int_int.f (k + 1) a0 a1) := by
  intro a0 a1 k
  unfold slices_Contains_int_int.f
  repeat' first
      | (with_reducible exact slices_Index_int_int.mono _ _ _)
      | (with_reducible exact LeO.refl _)
      | (with_reducible exact LeO.none _)
      | (with_reducible refine LeO.ite ?_ ?_)
      | (with_reducible refine LeO.bind ?_ (fun _ => ?_))
      | exact slices_Index_int_int.mono _ _ _
      | exact LeO.none _
      | refine LeO.ite ?_ ?_
      | refine LeO.bind ?_ (fun _ => ?_)
set_option maxHeartbeats 8000000 in
set_option maxRecDepth 100000 in
theorem slices_Contains_int_int.calls (k : Nat) (A0 : Option Addr) (c0 : Nat) (l0 : List Int) (a1 : Int) (r : Bool) (w : World) (hr0 : Kd.C (Kd.int .i64) w A0 l0.length l0) (hc0 : l0.length ≤ c0) (h : slices_Contains_int_int.f k l0 a1 = some r) :
    Calls Try.prog 91 #[.slice A0 l0.length c0, .int .i64 a1] w fun e w' => e = .returned (.bool r) ∧ Drawn0 w w' := by
  have HR0 := Aside0.mk hr0
  have HC0 := Aside0.mk hc0
  clear hr0 hc0
  have H : ((slices_Index_int_int.f k l0 a1).bind fun t240 => (some (decide (t240 ≥ 0)))) = some r := h
  clear h
  replace H := Option.bind_eq_some_iff.mp H
  obtain ⟨t240, A30, H⟩ := H
  replace H : (some (decide (t240 ≥ 0))) = some r := H
  have A3 := Aside0.mk A30
  clear A30
  obtain rfl := Option.some.inj H
  go_enter Try.func91, Try.ntmps91
  go_wp2_with (first | ((with_reducible refine gate_callee (f := 100) rfl ?_); refine goesL_ (some 7) rfl rfl Try.func100 (by kernel_rfl) rfl #[.slice A0 l0.length c0, .int .i64 a1] rfl (by (try simp only [List.map_toArray, List.map_cons, List.map_nil]); first | done | rfl | (simp only [List.length_drop, List.length_take]; rfl)) ?_; (with_reducible refine (slices_Index_int_int.calls k _ _ l0 a1 t240 _ ?side1 ?side2 A3.out).mono ?_); (case side1 => repeat (first | exact HR0.out | (with_reducible refine Kd.C_alloc ?_ _) | (with_reducible refine Kd.C_drewN ?_ _) | (with_reducible refine Kd.C_drew ?_))); (case side2 => exact HC0.out); rintro e w' ⟨rfl, ⟨nd, rfl⟩⟩; refine ⟨_, rfl, ?_⟩))
  go_ret
  exact ⟨by first | rfl | (simp; done) | (simp [*]; done), by repeat (first | exact Drawn0.refl _ | apply Drawn0.step)⟩

/-! ### impl_has: function 70 -/
def impl_has.f (k : Nat) (l0 : List Int) (a1 : Int) : Option (Bool) := (slices_Contains_int_int.f k l0 a1).bind fun t241 => (some t241)
theorem impl_has.mono : ∀ a0 a1 k, LeO (impl_has.f k a0 a1) (impl_has.f (k + 1) a0 a1) := by
  intro a0 a1 k
  unfold impl_has.f
  repeat' first
      | (with_reducible exact slices_Contains_int_int.mono _ _ _)
      | (with_reducible exact LeO.refl _)
      | (with_reducible exact LeO.none _)
      | (with_reducible refine LeO.ite ?_ ?_)
      | (with_reducible refine LeO.bind ?_ (fun _ => ?_))
      | exact slices_Contains_int_int.mono _ _ _
      | exact LeO.none _
      | refine LeO.ite ?_ ?_
      | refine LeO.bind ?_ (fun _ => ?_)
set_option maxHeartbeats 8000000 in
set_option maxRecDepth 100000 in
theorem impl_has.calls (k : Nat) (A0 : Option Addr) (c0 : Nat) (l0 : List Int) (a1 : Int) (r : Bool) (w : World) (hr0 : Kd.C (Kd.int .i64) w A0 l0.length l0) (hc0 : l0.length ≤ c0) (h : impl_has.f k l0 a1 = some r) :
    Calls Try.prog 70 #[.slice A0 l0.length c0, .int .i64 a1] w fun e w' => e = .returned (.bool r) ∧ Drawn0 w w' := by
  have HR0 := Aside0.mk hr0
  have HC0 := Aside0.mk hc0
  clear hr0 hc0
  have H : ((slices_Contains_int_int.f k l0 a1).bind fun t241 => (some t241)) = some r := h
  clear h
  replace H := Option.bind_eq_some_iff.mp H
  obtain ⟨t241, A30, H⟩ := H
  replace H : (some t241) = some r := H
  have A3 := Aside0.mk A30
  clear A30
  obtain rfl := Option.some.inj H
  go_enter Try.func70, Try.ntmps70
  go_wp2_with (first | ((with_reducible refine gate_callee (f := 91) rfl ?_); refine goesL_ (some 7) rfl rfl Try.func91 (by kernel_rfl) rfl #[.slice A0 l0.length c0, .int .i64 a1] rfl (by (try simp only [List.map_toArray, List.map_cons, List.map_nil]); first | done | rfl | (simp only [List.length_drop, List.length_take]; rfl)) ?_; (with_reducible refine (slices_Contains_int_int.calls k _ _ l0 a1 t241 _ ?side1 ?side2 A3.out).mono ?_); (case side1 => repeat (first | exact HR0.out | (with_reducible refine Kd.C_alloc ?_ _) | (with_reducible refine Kd.C_drewN ?_ _) | (with_reducible refine Kd.C_drew ?_))); (case side2 => exact HC0.out); rintro e w' ⟨rfl, ⟨nd, rfl⟩⟩; refine ⟨_, rfl, ?_⟩))
  go_ret
  exact ⟨by first | rfl | (simp; done) | (simp [*]; done), by repeat (first | exact Drawn0.refl _ | apply Drawn0.step)⟩

-- NOT PRINTED: function 85 (impl_caves_1)

end Go.Proofs.Ytdfmjmmiepmplaa.MB
