-- Written by a program of this session (wip/drv.py) out of Lean's own print of the loaded program; hand-proved parts from wip/inj.
import Derived.Test.YtdfmjmmiepmplaaMBx0
import Derived.Test.YtdfmjmmiepmplaaMBx1
import Derived.Test.YtdfmjmmiepmplaaMBx2
import Derived.Test.YtdfmjmmiepmplaaMBx3
import Derived.Test.YtdfmjmmiepmplaaMBx6
import Derived.Test.YtdfmjmmiepmplaaMBx7
import Derived.Test.YtdfmjmmiepmplaaMBx8
namespace Go.Proofs.Ytdfmjmmiepmplaa.MB
open Go.RowKit Go.Proofs.YtdfmjmmiepmplaaW.PrintWords Go.Proofs.YtdfmjmmiepmplaaW.PrintLast Go.Proofs.YtdfmjmmiepmplaaW.PrintMore
attribute [local go_sem] max2_int min2_int max_two min_two max_three min_three max_four min_four   -- for this text's walks alone
set_option linter.unusedVariables false
set_option linter.unusedSimpArgs false

/-! ### impl_areEntrances: function 65 -/
def impl_areEntrances.f (k : Nat) (l0 : List (S69)) (l1 : List Int) : Option (Bool) := (impl_areLegs.f k l0).bind fun t256 => (if t256 = true then ((impl_strictly.f k l1 0 7).bind fun t257 => (some t257)) else (some false))
theorem impl_areEntrances.mono : ∀ a0 a1 k, LeO (impl_areEntrances.f k a0 a1) (impl_areEntrances.f (k + 1) a0 a1) := by
  intro a0 a1 k
  unfold impl_areEntrances.f
  repeat' first
      | (with_reducible exact impl_areLegs.mono _ _)
      | (with_reducible exact impl_strictly.mono _ _ _ _)
      | (with_reducible exact LeO.refl _)
      | (with_reducible exact LeO.none _)
      | (with_reducible refine LeO.ite ?_ ?_)
      | (with_reducible refine LeO.bind ?_ (fun _ => ?_))
      | exact impl_areLegs.mono _ _
      | exact impl_strictly.mono _ _ _ _
      | exact LeO.none _
      | refine LeO.ite ?_ ?_
      | refine LeO.bind ?_ (fun _ => ?_)
set_option maxHeartbeats 8000000 in
set_option maxRecDepth 100000 in
theorem impl_areEntrances.calls (k : Nat) (A0 : Option Addr) (c0 : Nat) (l0 : List (S69)) (A1 : Option Addr) (c1 : Nat) (l1 : List Int) (r : Bool) (w : World) (hr0 : Kd.C k69 w A0 l0.length l0) (hc0 : l0.length ≤ c0) (hr1 : Kd.C (Kd.int .i64) w A1 l1.length l1) (hc1 : l1.length ≤ c1) (h : impl_areEntrances.f k l0 l1 = some r) :
    Calls Try.prog 65 #[.slice A0 l0.length c0, .slice A1 l1.length c1] w fun e w' => e = .returned (.bool r) ∧ Below w.heap.size w w' := by
  have HR0 := Aside0.mk hr0
  have HC0 := Aside0.mk hc0
  clear hr0 hc0
  have HR1 := Aside0.mk hr1
  have HC1 := Aside0.mk hc1
  clear hr1 hc1
  have HB := Aside0.mk (Below.refl w.heap.size w)
  have H : ((impl_areLegs.f k l0).bind fun t256 => (if t256 = true then ((impl_strictly.f k l1 0 7).bind fun t257 => (some t257)) else (some false))) = some r := h
  clear h
  replace H := Option.bind_eq_some_iff.mp H
  obtain ⟨t256, A30, H⟩ := H
  replace H : (if t256 = true then ((impl_strictly.f k l1 0 7).bind fun t257 => (some t257)) else (some false)) = some r := H
  have A3 := Aside0.mk A30
  clear A30
  by_cases c4 : t256 = true
  · subst c4
    have H1 : ((impl_strictly.f k l1 0 7).bind fun t257 => (some t257)) = some r := by rw [if_pos rfl] at H; exact H
    clear H
    have H := H1
    clear H1
    replace H := Option.bind_eq_some_iff.mp H
    obtain ⟨t257, A50, H⟩ := H
    replace H : (some t257) = some r := H
    have A5 := Aside0.mk A50
    clear A50
    obtain rfl := Option.some.inj H
    go_enter Try.func65, Try.ntmps65
    go_wp2_with (first | ((with_reducible refine gate_callee (f := 54) rfl ?_); refine goesL_ (some 6) rfl rfl Try.func54 (by kernel_rfl) rfl #[.slice A0 l0.length c0] rfl (by (try simp only [List.map_toArray, List.map_cons, List.map_nil]); first | done | rfl | (simp only [List.length_drop, List.length_take]; rfl)) ?_; (with_reducible refine (impl_areLegs.calls k _ _ l0 true _ ?side1 ?side2 A3.out).mono ?_); (case side1 => repeat (first | exact HR0.out | (with_reducible refine Kd.C_alloc ?_ _) | (with_reducible refine Kd.C_drewN ?_ _) | (with_reducible refine Kd.C_drew ?_))); (case side2 => exact HC0.out); rintro e w6 ⟨rfl, hb⟩; refine ⟨_, rfl, ?_⟩; have n0_ := Aside0.mk (below_step (by repeat (first | (with_reducible first | exact HB.out | apply below_alloc | apply pw_below_drewN | apply below_drew1) | exact HB.out)) hb); clear HB; have HB := n0_; clear n0_; (try clear hb); (try clear hb2); (try clear hk); (try clear hi)) | (go_at_call 87; (with_reducible refine (impl_strictly.calls k _ _ l1 0 7 t257 _ ?side1 ?side2 A5.out).mono ?_); (case side1 => repeat (first | exact (Kd.C_below HR1.out HB.out) | (with_reducible refine Kd.C_alloc ?_ _) | (with_reducible refine Kd.C_drewN ?_ _) | (with_reducible refine Kd.C_drew ?_))); (case side2 => exact HC1.out); rintro e w' ⟨rfl, ⟨nd, rfl⟩⟩))
    go_ret
    exact ⟨by first | rfl | (simp [errW_none, errW_some] <;> rfl) | (simp [*, errW_none, errW_some] <;> rfl), by repeat (first | (with_reducible first | exact HB.out | apply below_alloc | apply pw_below_drewN | apply below_drew1) | exact HB.out)⟩
  · replace c4 := Bool.eq_false_iff.mpr c4
    subst c4
    have H1 : (some false) = some r := by rw [if_neg (show ¬ (false = true) by decide)] at H; exact H
    clear H
    have H := H1
    clear H1
    obtain rfl := Option.some.inj H
    go_enter Try.func65, Try.ntmps65
    go_wp2_with (first | ((with_reducible refine gate_callee (f := 54) rfl ?_); refine goesL_ (some 6) rfl rfl Try.func54 (by kernel_rfl) rfl #[.slice A0 l0.length c0] rfl (by (try simp only [List.map_toArray, List.map_cons, List.map_nil]); first | done | rfl | (simp only [List.length_drop, List.length_take]; rfl)) ?_; (with_reducible refine (impl_areLegs.calls k _ _ l0 false _ ?side1 ?side2 A3.out).mono ?_); (case side1 => repeat (first | exact HR0.out | (with_reducible refine Kd.C_alloc ?_ _) | (with_reducible refine Kd.C_drewN ?_ _) | (with_reducible refine Kd.C_drew ?_))); (case side2 => exact HC0.out); rintro e w7 ⟨rfl, hb⟩; refine ⟨_, rfl, ?_⟩; have n0_ := Aside0.mk (below_step (by repeat (first | (with_reducible first | exact HB.out | apply below_alloc | apply pw_below_drewN | apply below_drew1) | exact HB.out)) hb); clear HB; have HB := n0_; clear n0_; (try clear hb); (try clear hb2); (try clear hk); (try clear hi)))
    go_ret
    exact ⟨by first | rfl | (simp [errW_none, errW_some] <;> rfl) | (simp [*, errW_none, errW_some] <;> rfl), by repeat (first | (with_reducible first | exact HB.out | apply below_alloc | apply pw_below_drewN | apply below_drew1) | exact HB.out)⟩

-- NOT PRINTED: function 90 (slices_IndexFunc_int_int_90)

-- NOT PRINTED: function 68 (slices_ContainsFunc_int_int_68)

-- NOT PRINTED: function 69 (impl_CavesWithout_1)

/-! ### impl_CavesWithout: function 41 (by hand: wip/inj) -/
set_option maxHeartbeats 8000000 in
set_option maxRecDepth 100000 in
theorem impl_CavesWithout_idx.calls (caps : Array Value) (p : Int → Bool) (A0 : Option Addr) (c0 : Nat) (l0 : List (Int)) (w : World) (hr0 : Kd.C (Kd.int .i64) w A0 l0.length l0) (hc0 : l0.length ≤ c0)
    (hp : ∀ x W, Below w.heap.size w W → Calls Try.prog 69 (#[.int .i64 x] ++ caps) W fun e W' => e = .returned (.bool (p x)) ∧ Below W.heap.size W W') :
    Calls Try.prog 90 #[.slice A0 l0.length c0, .func (.func 69) #[] caps] w fun e w' => e = .returned (.int .i64 (idxF p l0 0)) ∧ Below w.heap.size w w' := by
  have HR0 := Aside0.mk hr0
  have HC0 := Aside0.mk hc0
  have HP := Aside0.mk hp
  have HM := Aside0.mk hr0.2.1
  clear hr0 hc0 hp
  go_enter Try.func90, Try.ntmps90
  go_wp2
  go_loopg [8] l0.length (fun kq v8 w' => ∃ x : Int, v8 = .int .i64 x ∧ Aside0 (0 ≤ x ∧ kq + x.toNat = l0.length ∧ idxF p l0 0 = idxF p (l0.drop x.toNat) x) ∧ Aside0 (Below w.heap.size w w'))
  case atStart => exact ⟨0, rfl, ⟨by simp⟩, ⟨Below.refl _ _⟩⟩
  case round =>
    obtain ⟨x, rfl, HA, HB⟩ := hrel
    by_cases hlt : x < (l0.length : Int)
    · have c0 : decide (x < (l0.length : Int)) = true := decide_eq_true hlt
      have c1 : decide (0 ≤ x) = true := decide_eq_true HA.out.1
      obtain ⟨ad, e, hx⟩ := Kd.at_int (Kd.C_below HR0.out HB.out) x HA.out.1 hlt
      cases e
      have HLT := Aside0.mk hlt
      have p1 := eq_true HA.out.1
      have q1 := eq_true hlt
      clear hlt
      obtain ⟨k1, rfl⟩ : ∃ k1, gk = k1 + 1 := ⟨gk - 1, by have := HA.out; have := HLT.out; omega⟩
      have HS := Aside0.mk (HA.out.2.2.trans (idxF_step p l0 0 x HA.out.1 HLT.out HM.out))
      cases hq : p (rd l0 x) with
      | true =>
        have HQ := Aside0.mk hq
        go_wp2_with (go_at_call 69; refine (HP.out _ _ HB.out).mono ?_; rintro e w1 ⟨rfl, hb⟩)
        go_ret
        exact ⟨by rw [HS.out, show p (l0.getD x.toNat 0) = true from HQ.out]; rfl, Below.trans HB.out (hb.mono HB.out.size)⟩
      | false =>
        have HQ := Aside0.mk hq
        go_wp2_with (go_at_call 69; refine (HP.out _ _ HB.out).mono ?_; rintro e w1 ⟨rfl, hb⟩)
        go_roundg k1
        case measure => omega
        case rel => exact ⟨wrap64 (x + 1), rfl, ⟨by have := HA.out; have := HLT.out; have := HM.out; unfold wrap64; omega, by have := HA.out; have := HLT.out; have := HM.out; unfold wrap64; omega, by rw [HS.out, show p (l0.getD x.toNat 0) = false from HQ.out]; rfl⟩, ⟨Below.trans HB.out (hb.mono HB.out.size)⟩⟩
    · have c0 : decide (x < (l0.length : Int)) = false := decide_eq_false hlt
      have HS := Aside0.mk (HA.out.2.2.trans (idxF_end p l0 x hlt))
      clear hlt
      go_wp2
      go_ret
      exact ⟨by rw [HS.out]; rfl, HB.out⟩
set_option maxHeartbeats 8000000 in
set_option maxRecDepth 100000 in
theorem impl_CavesWithout_cont.calls (caps : Array Value) (p : Int → Bool) (A0 : Option Addr) (c0 : Nat) (l0 : List (Int)) (w : World) (hr0 : Kd.C (Kd.int .i64) w A0 l0.length l0) (hc0 : l0.length ≤ c0)
    (hp : ∀ x W, Below w.heap.size w W → Calls Try.prog 69 (#[.int .i64 x] ++ caps) W fun e W' => e = .returned (.bool (p x)) ∧ Below W.heap.size W W') :
    Calls Try.prog 68 #[.slice A0 l0.length c0, .func (.func 69) #[] caps] w fun e w' => e = .returned (.bool (l0.any p)) ∧ Below w.heap.size w w' := by
  have HI := Aside0.mk (impl_CavesWithout_idx.calls caps p A0 c0 l0 w hr0 hc0 hp)
  clear hr0 hc0 hp
  go_enter Try.func68, Try.ntmps68
  go_wp2_with (go_at_call 90; refine HI.out.mono ?_; rintro e w1 ⟨rfl, hb⟩)
  go_ret
  exact ⟨by rw [← idxF_ge p l0 0 (by omega)]; rfl, hb⟩
set_option maxHeartbeats 8000000 in
set_option maxRecDepth 100000 in
theorem impl_CavesWithout_1.calls (s : Int) (g : Nat) (x : List Int) (W : World) (Ax : Option Addr) (cx : Nat) (hx : Kd.C (Kd.int .i64) W Ax x.length x) (hc : x.length ≤ cx) (hg : W.heap[g]? = some (.cells #[.slice Ax x.length cx] 35 (0, 0))) :
    Calls Try.prog 69 #[.int .i64 s, .pointer (some ⟨g, 0, none⟩)] W fun e W' => e = .returned (.bool (decide (s ∈ x))) ∧ Below W.heap.size W W' := by
  have HX := Aside0.mk hx
  have HC := Aside0.mk hc
  have HH := Aside0.mk (has_total x s hx.2.1 (x.length + 1) (Nat.lt_succ_self _))
  have hcell : W.cell? ⟨g, 0, none⟩ = some (.slice Ax x.length cx) := (blk_cell hg 0).trans rfl
  clear hx hc hg
  go_enter Try.func69, Try.ntmps69
  go_wp2_with (go_at_call 70; refine (impl_has.calls (x.length + 1) _ _ x s _ _ HX.out HC.out HH.out).mono ?_; rintro e w1 ⟨rfl, ⟨nd, rfl⟩⟩)
  go_ret
  exact ⟨rfl, pw_below_drewN (Below.refl _ _) _⟩
/-- No entrance lies in a cave. -/
def closedB (l1 : List Int) (c : List Int) : Bool := !(l1.any (fun s => decide (s ∈ c)))
def impl_CavesWithout.f (k : Nat) (l0 : List S69) (l1 : List Int) : Option (List (List Int) × Bool) := (impl_areEntrances.f k l0 l1).bind fun t => if t = true then ((impl_caves.f k l0).bind fun all => if all.length ≤ 100 then some (all.filter (closedB l1), true) else none) else some ([], false)
theorem impl_CavesWithout.mono : ∀ a0 a1 k, LeO (impl_CavesWithout.f k a0 a1) (impl_CavesWithout.f (k + 1) a0 a1) := by
  intro a0 a1 k
  unfold impl_CavesWithout.f
  repeat' first
      | (with_reducible exact impl_areEntrances.mono _ _ _)
      | (with_reducible exact impl_caves.mono _ _)
      | (with_reducible exact LeO.refl _)
      | (with_reducible exact LeO.none _)
      | (with_reducible refine LeO.ite ?_ ?_)
      | (with_reducible refine LeO.bind ?_ (fun _ => ?_))
      | exact impl_areEntrances.mono _ _ _
      | exact impl_caves.mono _ _
      | exact LeO.none _
      | refine LeO.ite ?_ ?_
      | refine LeO.bind ?_ (fun _ => ?_)
theorem zip_getD (xs : List (List Int)) (i : Nat) (h : i < xs.length) : xs.zipIdx.getD i ([], 0) = (xs.getD i [], i) := by
  simp [List.getD_eq_getElem?_getD, List.getElem?_eq_getElem h, List.getElem?_zipIdx]
theorem filter_take (p : List Int → Bool) (xs : List (List Int)) (i : Nat) (h : i < xs.length) : (xs.take (i + 1)).filter p = (xs.take i).filter p ++ (if p (xs.getD i []) = true then [xs.getD i []] else []) := by
  rw [List.take_succ_eq_append_getElem h, List.filter_append, List.getD_eq_getElem?_getD, List.getElem?_eq_getElem h]
  simp [List.filter_cons]
set_option maxHeartbeats 8000000 in
set_option maxRecDepth 100000 in
theorem impl_CavesWithout.calls (k : Nat) (A0 : Option Addr) (c0 : Nat) (l0 : List S69) (A1 : Option Addr) (c1 : Nat) (l1 : List Int) (r1 : List (List Int)) (r2 : Bool) (w : World) (hr0 : Kd.C k69 w A0 l0.length l0) (hc0 : l0.length ≤ c0) (hr1 : Kd.C (Kd.int .i64) w A1 l1.length l1) (hc1 : l1.length ≤ c1) (h : impl_CavesWithout.f k l0 l1 = some (r1, r2)) :
    Calls Try.prog 41 #[.slice A0 l0.length c0, .slice A1 l1.length c1] w fun e w' => ∃ v0_ : Value, e = .returned (.tuple #[v0_, .bool r2]) ∧ Kd.S (Kd.slice 3 (Kd.int .i64)) 35 w' w.heap.size (fun _ => True) v0_ r1 ∧ Below w.heap.size w w' := by
  obtain ⟨t, ht, h⟩ := Option.bind_eq_some_iff.mp h
  have HE := Aside0.mk (impl_areEntrances.calls k A0 c0 l0 A1 c1 l1 t w hr0 hc0 hr1 hc1 ht)
  have HR0 := Aside0.mk hr0
  have HC0 := Aside0.mk hc0
  have HR1 := Aside0.mk hr1
  have HC1 := Aside0.mk hc1
  clear hr0 hc0 hr1 hc1 ht
  cases t with
  | false =>
    simp only [Bool.false_eq_true, if_false, Option.some.injEq, Prod.mk.injEq] at h
    obtain ⟨rfl, rfl⟩ := h
    go_enter Try.func41, Try.ntmps41
    go_wp2_with (go_at_call 65; refine HE.out.mono ?_; rintro e w1 ⟨rfl, hb⟩)
    go_ret2
    exact ⟨_, rfl, Kd.S_nil _ _ _ _ _, hb⟩
  | true =>
    rw [if_pos rfl] at h
    obtain ⟨all, ha, h⟩ := Option.bind_eq_some_iff.mp h
    split at h
    case isFalse => cases h
    rename_i hl100
    simp only [Option.some.injEq, Prod.mk.injEq] at h
    obtain ⟨hres, rfl⟩ := h
    have HA := Aside0.mk ha
    have HL := Aside0.mk hl100
    have HRES := Aside0.mk hres
    clear ha hl100 hres
    go_enter Try.func41, Try.ntmps41
    go_wp2_with (fail)
    go_at_call 65
    refine HE.out.mono ?_
    rintro e w1 ⟨rfl, hb⟩
    have HB1 := Aside0.mk (show Below w.heap.size w w1 from hb)
    clear hb
    go_wp2_with (fail)
    go_at_call 62
    refine (impl_caves.calls k _ _ l0 all w1 (Kd.C_below HR0.out HB1.out) HC0.out HA.out).mono ?_
    rintro e w2 ⟨v0, rfl, hS, hb⟩
    obtain ⟨Aa, ca, ea⟩ := Kd.S_slice hS
    subst ea
    obtain ⟨f, hT⟩ := id hS
    have HT := Aside0.mk hT
    have HS := Aside0.mk hS
    have HB2 := Aside0.mk (HB1.out.trans (hb.mono HB1.out.size))
    clear hS hT hb
    go_wp2
    go_loopg [6, 16] all.length (fun kq v6 v16 w' => ∃ (x : Int) (out : List (List Int)), v16 = .int .i64 x ∧ Aside0 (0 ≤ x ∧ kq + x.toNat = all.length ∧ out = (all.take x.toNat).filter (closedB l1)) ∧ Aside0 (Kd.S (Kd.slice 3 (Kd.int .i64)) 35 w' w.heap.size (fun k_ => w2.heap.size ≤ k_ ∨ f k_ < x.toNat) v6 out) ∧ Aside0 (∀ k_, v6.ownBlock = some k_ → w2.heap.size ≤ k_) ∧ Aside0 (Below w2.heap.size w2 w'))
    case atStart => exact ⟨0, [], rfl, ⟨by omega, by simp, by simp⟩, ⟨Kd.S_nil _ _ _ _ _⟩, ⟨by simp [Value.ownBlock]⟩, ⟨Below.refl _ _⟩⟩
    case round =>
      obtain ⟨x, out, rfl, HX, HO, HOB, HB⟩ := hrel
      by_cases hlt : x < (all.length : Int)
      · have d0 : decide (x < (all.length : Int)) = true := decide_eq_true hlt
        have d1 : decide (0 ≤ x) = true := decide_eq_true HX.out.1
        have HLT := Aside0.mk hlt
        clear hlt
        obtain ⟨k1, rfl⟩ : ∃ k1, gk = k1 + 1 := ⟨gk - 1, by have := HX.out; have := HLT.out; omega⟩
        obtain ⟨go5, co5, eo5, gb5, gl5, cl5, HG5⟩ := Kd.S_form HS.out (by have := HX.out; have := HLT.out; omega)
        (first | cases eo5 | (injection eo5 with ea_ en_ ec_; (first | subst ea_ | (injection ea_ with ea_; subst ea_)); subst ec_; clear en_))
        clear gb5 gl5 HG5
        obtain ⟨cs, hcl, hM, hcc, hfr⟩ := Kd.R_elem HT.out (([], 0) : List Int × Nat) x HX.out.1 HLT.out
        rw [zip_getD all x.toNat (by have := HX.out; have := HLT.out; omega)] at hM
        obtain ⟨vi, rfl, hRi⟩ := hM
        have hx5 : w2.cell? ⟨go5, x.toNat, none⟩ = some vi := by
          have := hcc 0 vi rfl
          rwa [show x.toNat * (Kd.tag f (Kd.slice 3 (Kd.int .i64))).sz + 0 = x.toNat from by show x.toNat * 1 + 0 = _; omega] at this
        have hFT := filter_take (closedB l1) all x.toNat (by have := HX.out; have := HLT.out; omega)
        replace hRi : Kd.R (Kd.int .i64) 3 w2 w1.heap.size (fun k_ => k_ < w2.heap.size ∧ f k_ = x.toNat) vi (all.getD x.toNat []) := Kd.R_mono (Kd.R_bound hRi) (fun k_ hk_ => ⟨hk_.2.2.1, hk_.1.2⟩)
        obtain ⟨li, hli⟩ : ∃ l_, l_ = all.getD x.toNat [] := ⟨_, rfl⟩
        rw [← hli] at hRi hFT
        obtain ⟨Ai, ci, ei⟩ := Kd.R_slice hRi
        subst ei
        have HRi := Aside0.mk hRi
        have HFT := Aside0.mk hFT
        have hcw : wr.cell? ⟨go5, x.toNat, none⟩ = some (.slice Ai li.length ci) := (HB.out.cell (World.block_lt_of_cell? w2 _ hx5)).trans hx5
        have HX1 : Aside0 (0 ≤ wrap64 (x + 1) ∧ k1 + (wrap64 (x + 1)).toNat = all.length ∧ (wrap64 (x + 1)).toNat = x.toNat + 1) := ⟨by have := HX.out; have := HLT.out; have := HL.out; unfold wrap64; omega, by have := HX.out; have := HLT.out; have := HL.out; unfold wrap64; omega, by have := HX.out; have := HLT.out; have := HL.out; unfold wrap64; omega⟩
        have p5 := eq_true HX.out.1
        have q5 := eq_true HLT.out
        clear hcl hcc hfr hRi hFT hli hx5
        have HBW := Aside0.mk (HB2.out.trans (HB.out.mono HB2.out.size))
        cases hany : l1.any (fun s => decide (s ∈ li)) with
        | true =>
          have HANY := Aside0.mk hany
          clear hany
          go_wp2_with (first | ((with_reducible refine gate_dst (N := 8) rfl ?_); refine box_event ?hg (N := 8) ?hd (cs := #[.slice none 0 0]) (t := 35) ?hr ?_; (case hd => rfl); (case hg => rfl); (case hr => first | (go_simp; done) | (go_simp; rfl)); intro gb hg w15 hbox hb; have HBX := Aside0.mk hbox; have HWB := Aside0.mk hb; have HGE : Aside0 (wr.heap.size ≤ gb) := ⟨by rw [hg]; exact Nat.le_refl _⟩; clear hbox hb hg; have hcz : w15.cell? ⟨gb, 0, none⟩ = some (.slice none 0 0) := (blk_cell HBX.out 0).trans rfl; have hfz := blk_frozen HBX.out 0) | (go_at_call 68; have HBY : Aside0 (Below wr.heap.size wr (w15.setCell ⟨gb, 0, none⟩ (.slice Ai li.length ci))) := ⟨below_set HWB.out HGE.out⟩; have HK := Aside0.mk (blk_put (cs := #[.slice none 0 0]) HBX.out 0 (.slice Ai li.length ci) rfl); refine (impl_CavesWithout_cont.calls #[.pointer (some ⟨gb, 0, none⟩)] (fun s => decide (s ∈ li)) A1 c1 l1 _ (Kd.C_below HR1.out (below_step HBW.out HBY.out)) HC1.out (fun s W' hb' => impl_CavesWithout_1.calls s gb li W' Ai ci (Kd.C_below (Kd.R_reads' HRi.out).2.2 (below_step (below_step HB.out HBY.out) hb')) (Kd.R_reads' HRi.out).2.1 (blk_below HK.out hb'))).mono ?_; rintro e w9 ⟨he, hb⟩; rw [HANY.out] at he; subst he; have n0_ := Aside0.mk (below_step (below_step HB.out HBY.out) hb); have n1_ := Aside0.mk (Kd.S_below (Kd.S_below HO.out HBY.out) hb); have n2_ := Aside0.mk (blk_below HK.out hb); clear HB HO HK HBX HWB HBY HBW; have HB := n0_; have HO := n1_; have HK := n2_; clear n0_ n1_ n2_ hb; have hb0 := (blk_cell HK.out 0).trans rfl))
          go_roundg k1
          case measure => omega
          case rel => exact ⟨wrap64 (x + 1), out, rfl, ⟨HX1.out.1, HX1.out.2.1, by rw [HX1.out.2.2, HFT.out, HX.out.2.2, show closedB l1 li = false from by unfold closedB; rw [HANY.out]; rfl]; simp⟩, ⟨Kd.S_mono HO.out (fun k_ hk_ => by rw [HX1.out.2.2]; omega)⟩, HOB, HB⟩
        | false =>
          have HANY := Aside0.mk hany
          clear hany
          go_wp2_with (first | ((with_reducible refine gate_dst (N := 8) rfl ?_); refine box_event ?hg (N := 8) ?hd (cs := #[.slice none 0 0]) (t := 35) ?hr ?_; (case hd => rfl); (case hg => rfl); (case hr => first | (go_simp; done) | (go_simp; rfl)); intro gb hg w15 hbox hb; have HBX := Aside0.mk hbox; have HWB := Aside0.mk hb; have HGE : Aside0 (wr.heap.size ≤ gb) := ⟨by rw [hg]; exact Nat.le_refl _⟩; clear hbox hb hg; have hcz : w15.cell? ⟨gb, 0, none⟩ = some (.slice none 0 0) := (blk_cell HBX.out 0).trans rfl; have hfz := blk_frozen HBX.out 0) | (go_at_call 68; have HBY : Aside0 (Below wr.heap.size wr (w15.setCell ⟨gb, 0, none⟩ (.slice Ai li.length ci))) := ⟨below_set HWB.out HGE.out⟩; have HK := Aside0.mk (blk_put (cs := #[.slice none 0 0]) HBX.out 0 (.slice Ai li.length ci) rfl); refine (impl_CavesWithout_cont.calls #[.pointer (some ⟨gb, 0, none⟩)] (fun s => decide (s ∈ li)) A1 c1 l1 _ (Kd.C_below HR1.out (below_step HBW.out HBY.out)) HC1.out (fun s W' hb' => impl_CavesWithout_1.calls s gb li W' Ai ci (Kd.C_below (Kd.R_reads' HRi.out).2.2 (below_step (below_step HB.out HBY.out) hb')) (Kd.R_reads' HRi.out).2.1 (blk_below HK.out hb'))).mono ?_; rintro e w9 ⟨he, hb⟩; rw [HANY.out] at he; subst he; have n0_ := Aside0.mk (below_step (below_step HB.out HBY.out) hb); have n1_ := Aside0.mk (Kd.S_below (Kd.S_below HO.out HBY.out) hb); have n2_ := Aside0.mk (blk_below HK.out hb); clear HB HO HK HBX HWB HBY HBW; have HB := n0_; have HO := n1_; have HK := n2_; clear n0_ n1_ n2_ hb; have hb0 := (blk_cell HK.out 0).trans rfl) | ((with_reducible refine gate_builtin (b := .append) (xs := #[.tmp 24, .tmp 26]) rfl ?_); at_builtin; refine Kd.S_append (Kd.slice 3 (Kd.int .i64)) (w0 := w) w.heap.size rfl (.tmp 24) (.tmp 26) 47 35 (.slice none 0 0) 24 rfl Try.underlying47 info35 rfl (by decide) (by omega) u6 out li [.slice Ai li.length ci] (fun k_ => w2.heap.size ≤ k_ ∨ f k_ < x.toNat + 1) (fun k_ => k_ < w2.heap.size ∧ f k_ = x.toNat) rfl rfl ?aP ?aK ?aF ?aO ?aB ?aS ?aL ?_; (case aP => exact ⟨_, rfl, Kd.R_lower (Kd.R_below HRi.out HB.out) HB1.out.size⟩); (case aK => exact fun k_ hk_ => ⟨.inr (Nat.lt_succ_of_le (Nat.le_of_eq hk_.2)), fun e_ => Nat.lt_irrefl _ (Nat.lt_of_lt_of_le hk_.1 (HOB.out k_ e_.symm))⟩); (case aF => exact (fun k_ hk_ => .inl (Nat.le_trans HB.out.size hk_))); (case aO => exact Kd.S_mono HO.out (fun k_ hk_ => ⟨hk_.elim .inl (fun h_ => .inr (Nat.lt_succ_of_lt h_)), fun h_ => hk_.elim (fun h2_ => Nat.lt_irrefl _ (Nat.lt_of_lt_of_le h_.1 h2_)) (fun h2_ => Nat.lt_irrefl _ (Nat.lt_of_lt_of_le h2_ (Nat.le_of_eq h_.2.symm)))⟩)); (case aB => exact HB2.out.trans (HB.out.mono HB2.out.size)); (case aS => exact Nat.le_trans HB2.out.size HB.out.size); (case aL => have h1_ := HX.out.2.2; have h2_ := HL.out; have h3_ : out.length ≤ all.length := (by rw [h1_]; exact Nat.le_trans (List.length_filter_le _ _) (by rw [List.length_take]; omega)); omega); intro v213 w23 ho hb hg hat; have HO2 := Aside0.mk ho; have HB3 := Aside0.mk (HB.out.grown hg HB.out.size HOB.out); have HOB2 : Aside0 (∀ k_, v213.ownBlock = some k_ → w2.heap.size ≤ k_) := ⟨fun k_ e_ => by rcases hat with h_ | ⟨b_, h_, h2_⟩; exact HOB.out k_ (h_ ▸ e_); rw [h_] at e_; injection e_ with e_; rw [← e_]; exact Nat.le_trans HB.out.size h2_⟩; clear ho hb hg hat))
          go_roundg k1
          case measure => omega
          case rel => exact ⟨wrap64 (x + 1), out ++ [li], rfl, ⟨HX1.out.1, HX1.out.2.1, by rw [HX1.out.2.2, HFT.out, HX.out.2.2, show closedB l1 li = true from by unfold closedB; rw [HANY.out]; rfl]; simp⟩, ⟨by rw [HX1.out.2.2]; exact HO2.out⟩, HOB2, HB3⟩
      · have d0 : decide (x < (all.length : Int)) = false := decide_eq_false hlt
        have HLT := Aside0.mk hlt
        clear hlt
        have HE2 : Aside0 (out = r1) := ⟨by have h1 := HX.out; have h2 := HLT.out; rw [h1.2.2, List.take_of_length_le (by omega)]; exact HRES.out⟩
        go_wp2
        go_ret2
        exact ⟨_, rfl, by rw [← HE2.out]; exact Kd.S_mono HO.out (fun _ _ => trivial), HB2.out.trans (HB.out.mono HB2.out.size)⟩


/-! ### laws_FnExactCavesWithout: function 10 (by hand: wip/inj) -/
theorem lss_drawn {w w' : World} (h : Drawn0 w w') : Below w.heap.size w w' := by
  obtain ⟨n, rfl⟩ := h.out
  exact pw_below_drewN (Below.refl _ _) n

def laws_FnExactCavesWithout.f (k : Nat) (l0 : List (S71)) (l1 : List (Int)) : Option Bool := if (l1.length : Int) > 1048576 then some true else (laws_szLegS.f l0 1048576).bind fun v0 => if v0 < 0 then some true else (laws_toLegS.f k l0).bind fun m0 => (laws_toIntS.f k l1).bind fun m1 => (spec_CavesWithout.f k m0 m1).bind fun s => (impl_CavesWithout.f k m0 m1).bind fun g => (laws_eqIntSS.f k g.1 s.1).bind fun e => (laws_eqLegS.f k m0 m0).bind fun e0 => (laws_eqIntS.f k m1 m1).bind fun e1 => (laws_markLegS.f k m0 1).bind fun q0 => (laws_markIntS.f k m1 q0.1).bind fun q1 => (laws_markIntSS.f k g.1 1).bind fun mk => (laws_heldIntSS.f k mk.2 1).bind fun hd => if e = true ∧ g.2 = s.2 ∧ e0 = true ∧ e1 = true ∧ 0 ≤ q1.1 ∧ hd = mk.1 ∧ 0 ≤ hd then some true else none
theorem laws_FnExactCavesWithout.mono : ∀ a0 a1 k, LeO (laws_FnExactCavesWithout.f k a0 a1) (laws_FnExactCavesWithout.f (k + 1) a0 a1) := by
  intro a0 a1 k
  unfold laws_FnExactCavesWithout.f
  repeat' first
      | (with_reducible exact laws_toLegS.mono _ _)
      | (with_reducible exact laws_toIntS.mono _ _)
      | (with_reducible exact spec_CavesWithout.mono _ _ _)
      | (with_reducible exact impl_CavesWithout.mono _ _ _)
      | (with_reducible exact laws_eqIntSS.mono _ _ _)
      | (with_reducible exact laws_eqLegS.mono _ _ _)
      | (with_reducible exact laws_eqIntS.mono _ _ _)
      | (with_reducible exact laws_markLegS.mono _ _ _)
      | (with_reducible exact laws_markIntS.mono _ _ _)
      | (with_reducible exact laws_markIntSS.mono _ _ _)
      | (with_reducible exact laws_heldIntSS.mono _ _ _)
      | (with_reducible exact LeO.refl _)
      | (with_reducible exact LeO.none _)
      | (with_reducible refine LeO.ite ?_ ?_)
      | (with_reducible refine LeO.bind ?_ (fun _ => ?_))
      | exact laws_toLegS.mono _ _
      | exact laws_toIntS.mono _ _
      | exact spec_CavesWithout.mono _ _ _
      | exact impl_CavesWithout.mono _ _ _
      | exact laws_eqIntSS.mono _ _ _
      | exact laws_eqLegS.mono _ _ _
      | exact laws_eqIntS.mono _ _ _
      | exact laws_markLegS.mono _ _ _
      | exact laws_markIntS.mono _ _ _
      | exact laws_markIntSS.mono _ _ _
      | exact laws_heldIntSS.mono _ _ _
      | exact LeO.none _
      | refine LeO.ite ?_ ?_
      | refine LeO.bind ?_ (fun _ => ?_)
set_option maxHeartbeats 16000000 in
set_option maxRecDepth 100000 in
theorem laws_FnExactCavesWithout.calls (k : Nat) (A0 : Option Addr) (c0 : Nat) (l0 : List (S71)) (A1 : Option Addr) (c1 : Nat) (l1 : List (Int)) (r : Bool) (w : World) (hr0 : Kd.C k71 w A0 l0.length l0) (hc0 : l0.length ≤ c0) (hr1 : Kd.C (Kd.int .i64) w A1 l1.length l1) (hc1 : l1.length ≤ c1) (h : laws_FnExactCavesWithout.f k l0 l1 = some r) :
    Calls Try.prog 10 #[.slice A0 l0.length c0, .slice A1 l1.length c1] w fun e w' => e = .returned (.bool r) ∧ Below w.heap.size w w' := by
  have HR0 := Aside0.mk hr0
  have HC0 := Aside0.mk hc0
  have HM0 := Aside0.mk hr0.2.1
  have HR1 := Aside0.mk hr1
  have HC1 := Aside0.mk hc1
  have HM1 := Aside0.mk hr1.2.1
  have HB0 := Aside0.mk (Below.refl w.heap.size w)
  clear hr0 hc0 hr1 hc1
  unfold laws_FnExactCavesWithout.f at h
  by_cases hb1 : (l1.length : Int) > 1048576
  · rw [if_pos hb1] at h
    obtain rfl := Option.some.inj h
    have d1 : decide ((1048576 : Int) < (l1.length : Int)) = true := decide_eq_true hb1
    clear hb1 h
    go_enter Try.func10, Try.ntmps10
    go_wp2
    go_ret
    exact ⟨rfl, Below.refl _ _⟩
  rw [if_neg hb1] at h
  have d1 : decide ((1048576 : Int) < (l1.length : Int)) = false := decide_eq_false hb1
  clear hb1
  have HB_0 := HB0
  obtain ⟨v0, hv0, h⟩ := Option.bind_eq_some_iff.mp h
  have HV0 := Aside0.mk hv0
  clear hv0
  by_cases hz0 : v0 < 0
  · rw [if_pos hz0] at h
    obtain rfl := Option.some.inj h
    have z0 : decide (v0 < 0) = true := decide_eq_true hz0
    clear hz0 h
    go_enter Try.func10, Try.ntmps10
    go_wp2_with (fail)
    go_at_call 12
    refine (laws_szLegS.calls _ _ l0 (1048576) v0 _ (Kd.C_below HR0.out HB_0.out) HC0.out HV0.out).mono ?_
    rintro e_ w1_ ⟨rfl, hb⟩
    replace hb := lss_drawn hb
    have HB_1 := Aside0.mk (HB_0.out.trans (hb.mono HB_0.out.size))
    clear hb
    go_wp2
    go_ret
    exact ⟨rfl, HB_1.out⟩
  rw [if_neg hz0] at h
  have z0 : decide (v0 < 0) = false := decide_eq_false hz0
  have HZ0 := Aside0.mk hz0
  clear hz0
  obtain ⟨m0, hx_m0, h⟩ := Option.bind_eq_some_iff.mp h
  have HX_m0 := Aside0.mk hx_m0
  clear hx_m0
  obtain ⟨m1, hx_m1, h⟩ := Option.bind_eq_some_iff.mp h
  have HX_m1 := Aside0.mk hx_m1
  clear hx_m1
  obtain ⟨⟨s1, s2⟩, hx_s, h⟩ := Option.bind_eq_some_iff.mp h
  have HX_s := Aside0.mk hx_s
  clear hx_s
  obtain ⟨⟨g1, g2⟩, hx_g, h⟩ := Option.bind_eq_some_iff.mp h
  have HX_g := Aside0.mk hx_g
  clear hx_g
  obtain ⟨e, hx_e, h⟩ := Option.bind_eq_some_iff.mp h
  have HX_e := Aside0.mk hx_e
  clear hx_e
  obtain ⟨e0, hx_e0, h⟩ := Option.bind_eq_some_iff.mp h
  have HX_e0 := Aside0.mk hx_e0
  clear hx_e0
  obtain ⟨e1, hx_e1, h⟩ := Option.bind_eq_some_iff.mp h
  have HX_e1 := Aside0.mk hx_e1
  clear hx_e1
  obtain ⟨⟨q01, q02⟩, hx_q0, h⟩ := Option.bind_eq_some_iff.mp h
  have HX_q0 := Aside0.mk hx_q0
  clear hx_q0
  obtain ⟨⟨q11, q12⟩, hx_q1, h⟩ := Option.bind_eq_some_iff.mp h
  have HX_q1 := Aside0.mk hx_q1
  clear hx_q1
  obtain ⟨⟨mk1, mk2⟩, hx_mk, h⟩ := Option.bind_eq_some_iff.mp h
  have HX_mk := Aside0.mk hx_mk
  clear hx_mk
  obtain ⟨hd, hx_hd, h⟩ := Option.bind_eq_some_iff.mp h
  have HX_hd := Aside0.mk hx_hd
  clear hx_hd
  split at h
  case isFalse => cases h
  rename_i hco
  obtain rfl := Option.some.inj h
  clear h
  simp only at hco
  obtain ⟨rfl, rfl, rfl, rfl, hq_, rfl, hh_⟩ := hco
  have dq : decide (q11 < 0) = false := decide_eq_false (by omega)
  have dh : decide (hd < 0) = false := decide_eq_false (by omega)
  clear hq_ hh_
  go_enter Try.func10, Try.ntmps10
  go_wp2_with (fail)
  go_at_call 12
  refine (laws_szLegS.calls _ _ l0 (1048576) v0 _ (Kd.C_below HR0.out HB_0.out) HC0.out HV0.out).mono ?_
  rintro e_ w1_ ⟨rfl, hb⟩
  replace hb := lss_drawn hb
  have HB_1 := Aside0.mk (HB_0.out.trans (hb.mono HB_0.out.size))
  clear hb
  go_wp2_with (fail)
  go_at_call 14
  refine (laws_toLegS.calls k _ _ l0 m0 _ (Kd.C_below HR0.out HB_1.out) HC0.out HX_m0.out).mono ?_
  rintro e_ w2_ ⟨v_, rfl, hr_, hb⟩
  obtain ⟨At0, ct0, e_t0⟩ := Kd.R_slice hr_
  subst e_t0
  have HRt0 := Aside0.mk (Kd.R_mono (Kd.R_bound hr_) (fun k_ hk_ => (⟨hk_.2.1, hk_.2.2.1⟩ : w1_.heap.size ≤ k_ ∧ k_ < w2_.heap.size)))
  have HKt0 := Aside0.mk (Kd.R_reads' hr_).2
  clear hr_
  have HB_2 := Aside0.mk (HB_1.out.trans (hb.mono HB_1.out.size))
  clear hb
  go_wp2_with (fail)
  have HBmt0_2 := Aside0.mk (Below.refl w2_.heap.size w2_)
  go_at_call 22
  refine (laws_toIntS.calls k _ _ l1 m1 _ (Kd.C_below HR1.out HB_2.out) HC1.out HX_m1.out).mono ?_
  rintro e_ w3_ ⟨v_, rfl, hr_, hb⟩
  obtain ⟨At1, ct1, e_t1⟩ := Kd.R_slice hr_
  subst e_t1
  have HRt1 := Aside0.mk (Kd.R_mono (Kd.R_bound hr_) (fun k_ hk_ => (⟨hk_.2.1, hk_.2.2.1⟩ : w2_.heap.size ≤ k_ ∧ k_ < w3_.heap.size)))
  have HKt1 := Aside0.mk (Kd.R_reads' hr_).2
  clear hr_
  have HB_3 := Aside0.mk (HB_2.out.trans (hb.mono HB_2.out.size))
  have HBmt0_3 := Aside0.mk (HBmt0_2.out.trans (hb.mono HBmt0_2.out.size))
  clear hb
  go_wp2_with (fail)
  have HBmt1_3 := Aside0.mk (Below.refl w3_.heap.size w3_)
  go_at_call 40
  refine (spec_CavesWithout.calls k _ _ m0 _ _ m1 s1 g2 _ (Kd.C_below HKt0.out.2 (HBmt0_3.out)) HKt0.out.1 (Kd.C_below HKt1.out.2 (HBmt1_3.out)) HKt1.out.1 HX_s.out).mono ?_
  rintro e_ w4_ ⟨v_, rfl, hr_, hb⟩
  obtain ⟨As, cs_, es⟩ := Kd.N_slice hr_
  subst es
  have HS := Aside0.mk (Kd.N_reads' hr_).2
  clear hr_
  have HB_4 := Aside0.mk (HB_3.out.trans (hb.mono HB_3.out.size))
  clear hb HBmt0_3 HBmt1_3
  have HBms_4 := Aside0.mk (Below.refl w4_.heap.size w4_)
  go_wp2_with (fail)
  go_at_call 14
  refine (laws_toLegS.calls k _ _ l0 m0 _ (Kd.C_below HR0.out HB_4.out) HC0.out HX_m0.out).mono ?_
  rintro e_ w5_ ⟨v_, rfl, hr_, hb⟩
  obtain ⟨Ax0, cx0, e_x0⟩ := Kd.R_slice hr_
  subst e_x0
  have HRx0 := Aside0.mk (Kd.R_mono (Kd.R_bound hr_) (fun k_ hk_ => (⟨hk_.2.1, hk_.2.2.1⟩ : w4_.heap.size ≤ k_ ∧ k_ < w5_.heap.size)))
  have HKx0 := Aside0.mk (Kd.R_reads' hr_).2
  clear hr_
  have HB_5 := Aside0.mk (HB_4.out.trans (hb.mono HB_4.out.size))
  have HBms_5 := Aside0.mk (HBms_4.out.trans (hb.mono HBms_4.out.size))
  clear hb
  go_wp2_with (fail)
  have HBmx0_5 := Aside0.mk (Below.refl w5_.heap.size w5_)
  go_at_call 22
  refine (laws_toIntS.calls k _ _ l1 m1 _ (Kd.C_below HR1.out HB_5.out) HC1.out HX_m1.out).mono ?_
  rintro e_ w6_ ⟨v_, rfl, hr_, hb⟩
  obtain ⟨Ax1, cx1, e_x1⟩ := Kd.R_slice hr_
  subst e_x1
  have HRx1 := Aside0.mk (Kd.R_mono (Kd.R_bound hr_) (fun k_ hk_ => (⟨hk_.2.1, hk_.2.2.1⟩ : w5_.heap.size ≤ k_ ∧ k_ < w6_.heap.size)))
  have HKx1 := Aside0.mk (Kd.R_reads' hr_).2
  clear hr_
  have HB_6 := Aside0.mk (HB_5.out.trans (hb.mono HB_5.out.size))
  have HBms_6 := Aside0.mk (HBms_5.out.trans (hb.mono HBms_5.out.size))
  have HBmx0_6 := Aside0.mk (HBmx0_5.out.trans (hb.mono HBmx0_5.out.size))
  clear hb
  go_wp2_with (fail)
  have HBmx1_6 := Aside0.mk (Below.refl w6_.heap.size w6_)
  go_at_call 41
  refine (impl_CavesWithout.calls k _ _ m0 _ _ m1 g1 g2 _ (Kd.C_below HKx0.out.2 (HBmx0_6.out)) HKx0.out.1 (Kd.C_below HKx1.out.2 (HBmx1_6.out)) HKx1.out.1 HX_g.out).mono ?_
  rintro e_ w7_ ⟨v_, rfl, hr_, hb⟩
  obtain ⟨Ag, cg, eg⟩ := Kd.S_slice hr_
  subst eg
  have HG := Aside0.mk (Kd.S_mono (Kd.S_bound hr_) (fun k_ hk_ => (⟨hk_.2.1, hk_.2.2.1⟩ : w6_.heap.size ≤ k_ ∧ k_ < w7_.heap.size)))
  clear hr_
  have HB_7 := Aside0.mk (HB_6.out.trans (hb.mono HB_6.out.size))
  have HBms_7 := Aside0.mk (HBms_6.out.trans (hb.mono HBms_6.out.size))
  have HBmx0_7 := Aside0.mk (HBmx0_6.out.trans (hb.mono HBmx0_6.out.size))
  have HBmx1_7 := Aside0.mk (HBmx1_6.out.trans (hb.mono HBmx1_6.out.size))
  clear hb
  have HBmg_7 := Aside0.mk (Below.refl w7_.heap.size w7_)
  go_wp2_with (fail)
  go_at_call 34
  refine (laws_eqIntSS.calls k _ _ g1 _ _ s1 true _ (Kd.S_reads' HG.out).2.2 (Kd.S_reads' HG.out).2.1 (Kd.C_below HS.out.2 HBms_7.out) HS.out.1 HX_e.out).mono ?_
  rintro e_ w8_ ⟨rfl, hb⟩
  replace hb := lss_drawn hb
  have HB_8 := Aside0.mk (HB_7.out.trans (hb.mono HB_7.out.size))
  have HBms_8 := Aside0.mk (HBms_7.out.trans (hb.mono HBms_7.out.size))
  have HBmx0_8 := Aside0.mk (HBmx0_7.out.trans (hb.mono HBmx0_7.out.size))
  have HBmx1_8 := Aside0.mk (HBmx1_7.out.trans (hb.mono HBmx1_7.out.size))
  have HBmg_8 := Aside0.mk (HBmg_7.out.trans (hb.mono HBmg_7.out.size))
  clear hb
  go_wp2_with (fail)
  go_at_call 14
  refine (laws_toLegS.calls k _ _ l0 m0 _ (Kd.C_below HR0.out HB_8.out) HC0.out HX_m0.out).mono ?_
  rintro e_ w9_ ⟨v_, rfl, hr_, hb⟩
  obtain ⟨Ay0, cy0, e_y0⟩ := Kd.R_slice hr_
  subst e_y0
  have HRy0 := Aside0.mk (Kd.R_mono (Kd.R_bound hr_) (fun k_ hk_ => (⟨hk_.2.1, hk_.2.2.1⟩ : w8_.heap.size ≤ k_ ∧ k_ < w9_.heap.size)))
  have HKy0 := Aside0.mk (Kd.R_reads' hr_).2
  clear hr_
  have HB_9 := Aside0.mk (HB_8.out.trans (hb.mono HB_8.out.size))
  have HBms_9 := Aside0.mk (HBms_8.out.trans (hb.mono HBms_8.out.size))
  have HBmx0_9 := Aside0.mk (HBmx0_8.out.trans (hb.mono HBmx0_8.out.size))
  have HBmx1_9 := Aside0.mk (HBmx1_8.out.trans (hb.mono HBmx1_8.out.size))
  have HBmg_9 := Aside0.mk (HBmg_8.out.trans (hb.mono HBmg_8.out.size))
  clear hb
  go_wp2_with (fail)
  go_at_call 16
  refine (laws_eqLegS.calls k _ _ m0 _ _ m0 true _ (Kd.C_below HKx0.out.2 HBmx0_9.out) HKx0.out.1 HKy0.out.2 HKy0.out.1 HX_e0.out).mono ?_
  rintro e_ w10_ ⟨rfl, hb⟩
  have HB_10 := Aside0.mk (HB_9.out.trans (hb.mono HB_9.out.size))
  have HBms_10 := Aside0.mk (HBms_9.out.trans (hb.mono HBms_9.out.size))
  have HBmx0_10 := Aside0.mk (HBmx0_9.out.trans (hb.mono HBmx0_9.out.size))
  have HBmx1_10 := Aside0.mk (HBmx1_9.out.trans (hb.mono HBmx1_9.out.size))
  have HBmg_10 := Aside0.mk (HBmg_9.out.trans (hb.mono HBmg_9.out.size))
  clear hb HRy0 HKy0
  go_wp2_with (fail)
  go_at_call 22
  refine (laws_toIntS.calls k _ _ l1 m1 _ (Kd.C_below HR1.out HB_10.out) HC1.out HX_m1.out).mono ?_
  rintro e_ w11_ ⟨v_, rfl, hr_, hb⟩
  obtain ⟨Ay1, cy1, e_y1⟩ := Kd.R_slice hr_
  subst e_y1
  have HRy1 := Aside0.mk (Kd.R_mono (Kd.R_bound hr_) (fun k_ hk_ => (⟨hk_.2.1, hk_.2.2.1⟩ : w10_.heap.size ≤ k_ ∧ k_ < w11_.heap.size)))
  have HKy1 := Aside0.mk (Kd.R_reads' hr_).2
  clear hr_
  have HB_11 := Aside0.mk (HB_10.out.trans (hb.mono HB_10.out.size))
  have HBms_11 := Aside0.mk (HBms_10.out.trans (hb.mono HBms_10.out.size))
  have HBmx0_11 := Aside0.mk (HBmx0_10.out.trans (hb.mono HBmx0_10.out.size))
  have HBmx1_11 := Aside0.mk (HBmx1_10.out.trans (hb.mono HBmx1_10.out.size))
  have HBmg_11 := Aside0.mk (HBmg_10.out.trans (hb.mono HBmg_10.out.size))
  clear hb
  go_wp2_with (fail)
  go_at_call 24
  refine (laws_eqIntS.calls k _ _ m1 _ _ m1 true _ (Kd.C_below HKx1.out.2 HBmx1_11.out) HKx1.out.1 HKy1.out.2 HKy1.out.1 HX_e1.out).mono ?_
  rintro e_ w12_ ⟨rfl, hb⟩
  replace hb := lss_drawn hb
  have HB_12 := Aside0.mk (HB_11.out.trans (hb.mono HB_11.out.size))
  have HBms_12 := Aside0.mk (HBms_11.out.trans (hb.mono HBms_11.out.size))
  have HBmx0_12 := Aside0.mk (HBmx0_11.out.trans (hb.mono HBmx0_11.out.size))
  have HBmx1_12 := Aside0.mk (HBmx1_11.out.trans (hb.mono HBmx1_11.out.size))
  have HBmg_12 := Aside0.mk (HBmg_11.out.trans (hb.mono HBmg_11.out.size))
  clear hb HRy1 HKy1
  go_wp2_with (fail)
  have HSZ1 : Aside0 (w5_.heap.size ≤ w5_.heap.size) := ⟨Nat.le_refl _⟩
  have HSG : Aside0 (w5_.heap.size ≤ w6_.heap.size ∧ w6_.heap.size ≤ w6_.heap.size) := ⟨HBmx0_6.out.size, Nat.le_refl _⟩
  have HG_ := Aside0.mk (Kd.S_below HG.out HBmg_12.out)
  clear HG
  have HG := HG_
  clear HG_
  have HRz0 := Aside0.mk (Kd.R_below HRx0.out HBmx0_12.out)
  have HRz1 := Aside0.mk (Kd.R_below HRx1.out HBmx1_12.out)
  go_at_call 28
  refine (laws_markLegS.calls k (fun k_ => w4_.heap.size ≤ k_ ∧ k_ < w5_.heap.size) _ m0 (1) q01 q02 w4_ _ HBms_12.out (Kd.R_lower HRz0.out (Nat.le_refl _)) HX_q0.out).mono ?_
  rintro e_ w13_ ⟨rfl, hr_, hb, hk_⟩
  clear hr_
  have HBms_13 := Aside0.mk hb
  have HB_13 := Aside0.mk (HB_4.out.trans (hb.mono HB_4.out.size))
  have HRz1_ := Aside0.mk (Kd.R_kept HRz1.out hk_ (fun k_ h_ h2_ => by have := h_.1; have := h2_.2; have := HSZ1.out; omega))
  clear HRz1
  have HRz1 := HRz1_
  clear HRz1_
  have HG_ := Aside0.mk (Kd.S_kept HG.out hk_ (fun k_ h_ h2_ => by have := h_.1; have := h2_.2; have := HSG.out.1; omega))
  clear HG
  have HG := HG_
  clear HG_ hb hk_
  go_wp2_with (fail)
  go_at_call 29
  refine (laws_markIntS.calls k (fun k_ => w5_.heap.size ≤ k_ ∧ k_ < w6_.heap.size) _ m1 (q01) q11 q12 w4_ _ HBms_13.out (Kd.R_lower HRz1.out HBms_5.out.size) HX_q1.out).mono ?_
  rintro e_ w14_ ⟨rfl, hr_, hb, hk_⟩
  clear hr_
  have HBms_14 := Aside0.mk hb
  have HB_14 := Aside0.mk (HB_4.out.trans (hb.mono HB_4.out.size))
  have HG_ := Aside0.mk (Kd.S_kept HG.out hk_ (fun k_ h_ h2_ => by have := h_.1; have := h2_.2; have := HSG.out.2; omega))
  clear HG
  have HG := HG_
  clear HG_ hb hk_
  go_wp2_with (fail)
  go_at_call 34
  refine (laws_eqIntSS.calls k _ _ g1 _ _ s1 true _ (Kd.S_reads' HG.out).2.2 (Kd.S_reads' HG.out).2.1 (Kd.C_below HS.out.2 HBms_14.out) HS.out.1 HX_e.out).mono ?_
  rintro e_ w15_ ⟨rfl, hb⟩
  replace hb := lss_drawn hb
  have HB_15 := Aside0.mk (HB_14.out.trans (hb.mono HB_14.out.size))
  have HBms_15 := Aside0.mk (HBms_14.out.trans (hb.mono HBms_14.out.size))
  have HG_ := Aside0.mk (Kd.S_below HG.out hb)
  clear HG
  have HG := HG_
  clear HG_ hb
  go_wp2_with (fail)
  go_at_call 35
  refine (laws_markIntSS.calls k (fun k_ => w6_.heap.size ≤ k_ ∧ k_ < w7_.heap.size) _ g1 1 hd mk2 w4_ _ HBms_15.out (Kd.S_lower HG.out HBms_6.out.size) HX_mk.out).mono ?_
  rintro e_ w16_ ⟨rfl, hr_, hb, hk_⟩
  have HG_ := Aside0.mk hr_
  clear HG hr_ hk_
  have HG := HG_
  clear HG_
  have HBms_16 := Aside0.mk hb
  have HB_16 := Aside0.mk (HB_4.out.trans (hb.mono HB_4.out.size))
  clear hb
  have HNL : mk2.length = g1.length := (Kd.S_reads' HG.out).1.symm
  rw [← HNL] at HG
  have HL := Aside0.mk HNL.symm
  clear HNL
  go_wp2_with (fail)
  go_at_call 36
  try rw [HL.out]
  refine (laws_heldIntSS.calls k _ _ mk2 1 hd _ (Kd.S_reads' HG.out).2.2 (Kd.S_reads' HG.out).2.1 HX_hd.out).mono ?_
  rintro e_ w17_ ⟨rfl, hb⟩
  replace hb := lss_drawn hb
  have HB_17 := Aside0.mk (HB_16.out.trans (hb.mono HB_16.out.size))
  have HBms_17 := Aside0.mk (HBms_16.out.trans (hb.mono HBms_16.out.size))
  have HG_ := Aside0.mk (Kd.S_below HG.out hb)
  clear HG
  have HG := HG_
  clear HG_ hb
  go_wp2_with (fail)
  have HBmh0_17 := Aside0.mk (Below.refl w17_.heap.size w17_)
  go_at_call 14
  refine (laws_toLegS.calls k _ _ l0 m0 _ (Kd.C_below HR0.out HB_17.out) HC0.out HX_m0.out).mono ?_
  rintro e_ w18_ ⟨v_, rfl, hr_, hb⟩
  obtain ⟨Az0, cz0, e_z0⟩ := Kd.R_slice hr_
  subst e_z0
  have HRz0 := Aside0.mk (Kd.R_mono (Kd.R_bound hr_) (fun k_ hk_ => (⟨hk_.2.1, hk_.2.2.1⟩ : w17_.heap.size ≤ k_ ∧ k_ < w18_.heap.size)))
  have HKz0 := Aside0.mk (Kd.R_reads' hr_).2
  clear hr_
  have HB_18 := Aside0.mk (HB_17.out.trans (hb.mono HB_17.out.size))
  have HBms_18 := Aside0.mk (HBms_17.out.trans (hb.mono HBms_17.out.size))
  have HBmh0_18 := Aside0.mk (HBmh0_17.out.trans (hb.mono HBmh0_17.out.size))
  clear hb
  go_wp2_with (fail)
  have HBmz0_18 := Aside0.mk (Below.refl w18_.heap.size w18_)
  go_at_call 22
  refine (laws_toIntS.calls k _ _ l1 m1 _ (Kd.C_below HR1.out HB_18.out) HC1.out HX_m1.out).mono ?_
  rintro e_ w19_ ⟨v_, rfl, hr_, hb⟩
  obtain ⟨Az1, cz1, e_z1⟩ := Kd.R_slice hr_
  subst e_z1
  have HRz1 := Aside0.mk (Kd.R_mono (Kd.R_bound hr_) (fun k_ hk_ => (⟨hk_.2.1, hk_.2.2.1⟩ : w18_.heap.size ≤ k_ ∧ k_ < w19_.heap.size)))
  have HKz1 := Aside0.mk (Kd.R_reads' hr_).2
  clear hr_
  have HB_19 := Aside0.mk (HB_18.out.trans (hb.mono HB_18.out.size))
  have HBms_19 := Aside0.mk (HBms_18.out.trans (hb.mono HBms_18.out.size))
  have HBmz0_19 := Aside0.mk (HBmz0_18.out.trans (hb.mono HBmz0_18.out.size))
  have HBmh0_19 := Aside0.mk (HBmh0_18.out.trans (hb.mono HBmh0_18.out.size))
  clear hb
  go_wp2_with (fail)
  have HBmz1_19 := Aside0.mk (Below.refl w19_.heap.size w19_)
  go_at_call 41
  refine (impl_CavesWithout.calls k _ _ m0 _ _ m1 g1 g2 _ (Kd.C_below HKz0.out.2 (HBmz0_19.out)) HKz0.out.1 (Kd.C_below HKz1.out.2 (HBmz1_19.out)) HKz1.out.1 HX_g.out).mono ?_
  rintro e_ w20_ ⟨v_, rfl, hr_, hb⟩
  obtain ⟨Ah, ch, eh⟩ := Kd.S_slice hr_
  subst eh
  have HH := Aside0.mk hr_
  clear hr_
  have HB_20 := Aside0.mk (HB_19.out.trans (hb.mono HB_19.out.size))
  have HBms_20 := Aside0.mk (HBms_19.out.trans (hb.mono HBms_19.out.size))
  have HBmh0_20 := Aside0.mk (HBmh0_19.out.trans (hb.mono HBmh0_19.out.size))
  have HG_ := Aside0.mk (Kd.S_below HG.out HBmh0_20.out)
  clear HG
  have HG := HG_
  clear HG_ hb
  go_wp2_with (fail)
  go_at_call 34
  refine (laws_eqIntSS.calls k _ _ g1 _ _ s1 true _ (Kd.S_reads' HH.out).2.2 (Kd.S_reads' HH.out).2.1 (Kd.C_below HS.out.2 HBms_20.out) HS.out.1 HX_e.out).mono ?_
  rintro e_ w21_ ⟨rfl, hb⟩
  replace hb := lss_drawn hb
  have HB_21 := Aside0.mk (HB_20.out.trans (hb.mono HB_20.out.size))
  have HBms_21 := Aside0.mk (HBms_20.out.trans (hb.mono HBms_20.out.size))
  have HG_ := Aside0.mk (Kd.S_below HG.out hb)
  clear HG
  have HG := HG_
  clear HG_ hb
  go_wp2_with (fail)
  go_at_call 36
  try rw [HL.out]
  refine (laws_heldIntSS.calls k _ _ mk2 1 hd _ (Kd.S_reads' HG.out).2.2 (Kd.S_reads' HG.out).2.1 HX_hd.out).mono ?_
  rintro e_ w22_ ⟨rfl, hb⟩
  replace hb := lss_drawn hb
  have HB_22 := Aside0.mk (HB_21.out.trans (hb.mono HB_21.out.size))
  have HBms_22 := Aside0.mk (HBms_21.out.trans (hb.mono HBms_21.out.size))
  have HG_ := Aside0.mk (Kd.S_below HG.out hb)
  clear HG
  have HG := HG_
  clear HG_ hb
  go_wp2
  go_ret
  exact ⟨rfl, HB_22.out⟩


end Go.Proofs.Ytdfmjmmiepmplaa.MB
