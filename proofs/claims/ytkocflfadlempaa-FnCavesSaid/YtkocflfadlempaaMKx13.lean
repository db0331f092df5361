-- tight2 (a walk)
import Derived.Test.YtkocflfadlempaaMKx0
import Derived.Test.YtkocflfadlempaaMKx7
import Derived.Test.YtkocflfadlempaaMKx8
import Derived.Test.YtkocflfadlempaaMKx9
import Derived.Test.YtkocflfadlempaaMKx12
import Derived.Test.YtkocflfadlempaaMKx6
namespace Go.Proofs.Ytkocflfadlempaa.MK
open Go.RowKit Go.Proofs.YtkocflfadlempaaW.PrintWords Go.Proofs.YtkocflfadlempaaW.PrintLast
set_option maxHeartbeats 8000000
set_option maxRecDepth 100000
attribute [local go_sem] max2_int min2_int max_two min_two
set_option linter.unusedVariables false
set_option linter.unusedSimpArgs false

theorem impl_CavesWithout_idx.calls (caps : Array Value) (p : Int → Bool) (A0 : Option Addr) (c0 : Nat) (l0 : List (Int)) (w : World) (hr0 : Kd.C (Kd.int .i64) w A0 l0.length l0) (hc0 : l0.length ≤ c0)
  (hp : ∀ x W, Below w.heap.size w W → Calls Try.prog 40 (#[.int .i64 x] ++ caps) W fun e W' => e = .returned (.bool (p x)) ∧ Below W.heap.size W W') :
  Calls Try.prog 61 #[.slice A0 l0.length c0, .func (.func 40) #[] caps] w fun e w' => e = .returned (.int .i64 (idxF p l0 0)) ∧ Below w.heap.size w w' := by
 have HR0 := za hr0; have HC0 := za hc0; have HP := za hp; have HM := za hr0.2.1; clear hr0 hc0 hp
 go_enter Try.func61, Try.ntmps61
 go_wp2
 go_loopg [8] l0.length (fun kq v8 w' => ∃ x : Int, v8 = .int .i64 x ∧ Aside0 (0 ≤ x ∧ kq + x.toNat = l0.length ∧ idxF p l0 0 = idxF p (l0.drop x.toNat) x) ∧ Aside0 (Below w.heap.size w w'))
 case atStart => exact ⟨0, rfl, ⟨by simp⟩, ⟨zs _ _⟩⟩
 case round =>
  obtain ⟨x, rfl, HA, HB⟩ := hrel
  by_cases hlt : x < (l0.length : Int)
  ·have c0 : decide (x < (l0.length : Int)) = true := zc hlt; have c1 : decide (0 ≤ x) = true := zc HA.1.1; obtain ⟨ad, e, hx⟩ := zJ (zG HR0.1 HB.1) x HA.1.1 hlt; cases e; have HLT := za hlt; have p1 := zw HA.1.1; have q1 := zw hlt; clear hlt; obtain ⟨k1, rfl⟩ : ∃ k1, gk = k1 + 1 := ⟨gk - 1, by have := HA.1; have := HLT.1; omega⟩; have HS := za (by exact HA.1.2.2.trans (idxF_step p l0 0 x HA.1.1 HLT.1 HM.1))
   cases hq : p (rd l0 x) with
   | true =>
    have HQ := za hq
    go_wp2_with (go_at_call 40; refine (HP.1 _ _ HB.1).mono ?_; rintro e w1 ⟨rfl, hb⟩)
    go_ret
    exact ⟨by rw [HS.1, show p (l0.getD x.toNat 0) = true from HQ.1]; rfl, Below.trans HB.1 (hb.mono HB.1.size)⟩
   | false =>
    have HQ := za hq
    go_wp2_with (go_at_call 40; refine (HP.1 _ _ HB.1).mono ?_; rintro e w1 ⟨rfl, hb⟩)
    go_roundg k1
    case measure => omega
    case rel => exact ⟨wrap64 (x + 1), rfl, ⟨by have := HA.1; have := HLT.1; have := HM.1; unfold wrap64; omega, by have := HA.1; have := HLT.1; have := HM.1; unfold wrap64; omega, by rw [HS.1, show p (l0.getD x.toNat 0) = false from HQ.1]; rfl⟩, ⟨Below.trans HB.1 (hb.mono HB.1.size)⟩⟩
  ·have c0 : decide (x < (l0.length : Int)) = false := zv hlt; have HS := za (by exact HA.1.2.2.trans (idxF_end p l0 x hlt)); clear hlt
   go_wp2
   go_ret
   exact ⟨by rw [HS.1]; rfl, HB.1⟩
theorem impl_CavesWithout_cont.calls (caps : Array Value) (p : Int → Bool) (A0 : Option Addr) (c0 : Nat) (l0 : List (Int)) (w : World) (hr0 : Kd.C (Kd.int .i64) w A0 l0.length l0) (hc0 : l0.length ≤ c0)
  (hp : ∀ x W, Below w.heap.size w W → Calls Try.prog 40 (#[.int .i64 x] ++ caps) W fun e W' => e = .returned (.bool (p x)) ∧ Below W.heap.size W W') :
  Calls Try.prog 39 #[.slice A0 l0.length c0, .func (.func 40) #[] caps] w fun e w' => e = .returned (.bool (l0.any p)) ∧ Below w.heap.size w w' := by
 have HI := za (by exact impl_CavesWithout_idx.calls caps p A0 c0 l0 w hr0 hc0 hp); clear hr0 hc0 hp
 go_enter Try.func39, Try.ntmps39
 go_wp2_with (go_at_call 61; refine HI.1.mono ?_; rintro e w1 ⟨rfl, hb⟩)
 go_ret
 exact ⟨by rw [← idxF_ge p l0 0 (by omega)]; rfl, hb⟩
theorem impl_CavesWithout_1.calls (s : Int) (g : Nat) (x : List Int) (W : World) (Ax : Option Addr) (cx : Nat) (hx : Kd.C (Kd.int .i64) W Ax x.length x) (hc : x.length ≤ cx) (hg : W.heap[g]? = some (.cells #[.slice Ax x.length cx] 32 (0, 0))) :
  Calls Try.prog 40 #[.int .i64 s, .pointer (some ⟨g, 0, none⟩)] W fun e W' => e = .returned (.bool (decide (s ∈ x))) ∧ Below W.heap.size W W' := by
 have HX := za hx; have HC := za hc; have HH := za (by exact has_total x s hx.2.1 (x.length + 1) (Nat.lt_succ_self _)); have hcell : W.cell? ⟨g, 0, none⟩ = some (.slice Ax x.length cx) := (zf hg 0).trans rfl; clear hx hc hg
 go_enter Try.func40, Try.ntmps40
 go_wp2_with (go_at_call 41; refine (impl_has.calls (x.length + 1) _ _ x s _ _ HX.1 HC.1 HH.1).mono ?_; rintro e w1 ⟨rfl, ⟨nd, rfl⟩⟩)
 go_ret
 exact ⟨rfl, pw_below_drewN (zs _ _) _⟩
/-- No entrance lies in a cave. -/
def closedB (l1 : List Int) (c : List Int) : Bool := !(l1.any (fun s => decide (s ∈ c)))
def impl_CavesWithout.f (k : Nat) (l0 : List S72) (l1 : List Int) : Option (List (List Int) × Bool) := (impl_areEntrances.f k l0 l1).bind fun t => if t = true then ((impl_caves.f k l0).bind fun all => if all.length ≤ 100 then some (all.filter (closedB l1), true) else none) else some ([], false)
theorem zip_getD (xs : List (List Int)) (i : Nat) (h : i < xs.length) : xs.zipIdx.getD i ([], 0) = (xs.getD i [], i) := by
 simp [List.getD_eq_getElem?_getD, List.getElem?_eq_getElem h, List.getElem?_zipIdx]
theorem filter_take (p : List Int → Bool) (xs : List (List Int)) (i : Nat) (h : i < xs.length) : (xs.take (i + 1)).filter p = (xs.take i).filter p ++ (if p (xs.getD i []) = true then [xs.getD i []] else []) := by
 rw [List.take_succ_eq_append_getElem h, List.filter_append, List.getD_eq_getElem?_getD, List.getElem?_eq_getElem h]
 simp [List.filter_cons]
theorem impl_CavesWithout.calls (k : Nat) (A0 : Option Addr) (c0 : Nat) (l0 : List S72) (A1 : Option Addr) (c1 : Nat) (l1 : List Int) (r1 : List (List Int)) (r2 : Bool) (w : World) (hr0 : Kd.C k72 w A0 l0.length l0) (hc0 : l0.length ≤ c0) (hr1 : Kd.C (Kd.int .i64) w A1 l1.length l1) (hc1 : l1.length ≤ c1) (h : impl_CavesWithout.f k l0 l1 = some (r1, r2)) :
  Calls Try.prog 16 #[.slice A0 l0.length c0, .slice A1 l1.length c1] w fun e w' => ∃ v0_ : Value, e = .returned (.tuple #[v0_, .bool r2]) ∧ Kd.S (Kd.slice 3 (Kd.int .i64)) 32 w' w.heap.size (fun _ => True) v0_ r1 ∧ Below w.heap.size w w' := by
 obtain ⟨t, ht, h⟩ := zC h; have HE := za (by exact impl_areEntrances.calls k A0 c0 l0 A1 c1 l1 t w hr0 hc0 hr1 hc1 ht); have HR0 := za hr0; have HC0 := za hc0; have HR1 := za hr1; have HC1 := za hc1; clear hr0 hc0 hr1 hc1 ht
 cases t with
 | false =>
  simp only [Bool.false_eq_true, if_false, yd, ye] at h; obtain ⟨rfl, rfl⟩ := h
  go_enter Try.func16, Try.ntmps16
  go_wp2_with (go_at_call 34; refine HE.1.mono ?_; rintro e w1 ⟨rfl, hb⟩)
  go_ret2
  exact ⟨_, rfl, Kd.S_nil _ _ _ _ _, hb⟩
 | true =>
  rw [yb rfl] at h; obtain ⟨all, ha, h⟩ := zC h
  split at h
  case isFalse => cases h
  rename_i hl100
  simp only [yd, ye] at h; obtain ⟨hres, rfl⟩ := h; have HA := za ha; have HL := za hl100; have HRES := za hres; clear ha hl100 hres
  go_enter Try.func16, Try.ntmps16
  go_wp2_with (fail)
  go_at_call 34
  refine HE.1.mono ?_
  rintro e w1 ⟨rfl, hb⟩
  have HB1 := za (by exact show Below w.heap.size w w1 from hb); clear hb
  go_wp2_with (fail)
  go_at_call 26
  refine (impl_caves.calls k _ _ l0 all w1 (zG HR0.1 HB1.1) HC0.1 HA.1).mono ?_
  rintro e w2 ⟨v0, rfl, hS, hb⟩
  obtain ⟨Aa, ca, ea⟩ := Kd.S_slice hS; subst ea; obtain ⟨f, hT⟩ := id hS; have HT := za hT; have HS := za hS; have HB2 := za (by exact HB1.1.trans (hb.mono HB1.1.size)); clear hS hT hb
  go_wp2
  go_loopg [6, 16] all.length (fun kq v6 v16 w' => ∃ (x : Int) (out : List (List Int)), v16 = .int .i64 x ∧ Aside0 (0 ≤ x ∧ kq + x.toNat = all.length ∧ out = (all.take x.toNat).filter (closedB l1)) ∧ Aside0 (Kd.S (Kd.slice 3 (Kd.int .i64)) 32 w' w.heap.size (fun k_ => w2.heap.size ≤ k_ ∨ f k_ < x.toNat) v6 out) ∧ Aside0 (∀ k_, v6.ownBlock = some k_ → w2.heap.size ≤ k_) ∧ Aside0 (Below w2.heap.size w2 w'))
  case atStart => exact ⟨0, [], rfl, ⟨by omega, by simp, by simp⟩, ⟨Kd.S_nil _ _ _ _ _⟩, ⟨by simp [Value.ownBlock]⟩, ⟨zs _ _⟩⟩
  case round =>
   obtain ⟨x, out, rfl, HX, HO, HOB, HB⟩ := hrel
   by_cases hlt : x < (all.length : Int)
   ·have d0 : decide (x < (all.length : Int)) = true := zc hlt; have d1 : decide (0 ≤ x) = true := zc HX.1.1; have HLT := za hlt; clear hlt; obtain ⟨k1, rfl⟩ : ∃ k1, gk = k1 + 1 := ⟨gk - 1, by have := HX.1; have := HLT.1; omega⟩; obtain ⟨go5, co5, eo5, gb5, gl5, cl5, HG5⟩ := Kd.S_form HS.1 (qK71)
    (first | cases eo5 | (injection eo5 with ea_ en_ ec_; (first | subst ea_ | (injection ea_ with ea_; subst ea_)); subst ec_; clear en_))
    clear gb5 gl5 HG5; obtain ⟨cs, hcl, hM, hcc, hfr⟩ := Kd.R_elem HT.1 (([], 0) : List Int × Nat) x HX.1.1 HLT.1; rw [zip_getD all x.toNat (qK71)] at hM; obtain ⟨vi, rfl, hRi⟩ := hM
    have hx5 : w2.cell? ⟨go5, x.toNat, none⟩ = some vi := by
     have := hcc 0 vi rfl
     rwa [show x.toNat * (Kd.tag f (Kd.slice 3 (Kd.int .i64))).sz + 0 = x.toNat from by show x.toNat * 1 + 0 = _; omega] at this
    have hFT := filter_take (closedB l1) all x.toNat (qK71); replace hRi : Kd.R (Kd.int .i64) 3 w2 w1.heap.size (fun k_ => k_ < w2.heap.size ∧ f k_ = x.toNat) vi (all.getD x.toNat []) := zK (Kd.R_bound hRi) (fun k_ hk_ => ⟨hk_.2.2.1, hk_.1.2⟩); obtain ⟨li, hli⟩ : ∃ l_, l_ = all.getD x.toNat [] := ⟨_, rfl⟩; rw [← hli] at hRi hFT; obtain ⟨Ai, ci, ei⟩ := zI hRi; subst ei; have HRi := za hRi; have HFT := za hFT; have hcw : wr.cell? ⟨go5, x.toNat, none⟩ = some (.slice Ai li.length ci) := (HB.1.cell (zd w2 _ hx5)).trans hx5; have HX1 : Aside0 (0 ≤ wrap64 (x + 1) ∧ k1 + (wrap64 (x + 1)).toNat = all.length ∧ (wrap64 (x + 1)).toNat = x.toNat + 1) := ⟨by have := HX.1; have := HLT.1; have := HL.1; unfold wrap64; omega, by have := HX.1; have := HLT.1; have := HL.1; unfold wrap64; omega, by have := HX.1; have := HLT.1; have := HL.1; unfold wrap64; omega⟩; have p5 := zw HX.1.1; have q5 := zw HLT.1; clear hcl hcc hfr hRi hFT hli hx5; have HBW := za (by exact HB2.1.trans (HB.1.mono HB2.1.size))
    cases hany : l1.any (fun s => decide (s ∈ li)) with
    | true =>
     have HANY := za hany; clear hany
     go_wp2_with (first | ((with_reducible refine zq (N := 8) rfl ?_); refine zB ?hg (N := 8) ?hd (cs := #[.slice none 0 0]) (t := 32) ?hr ?_; (case hd | hg => rfl); (case hr => exact (qK23)); intro gb hg w15 hbox hb; have HBX := za hbox; have HWB := za hb; have HGE : Aside0 (wr.heap.size ≤ gb) := ⟨by rw [hg]; exact zo _⟩; clear hbox hb hg; have hcz : w15.cell? ⟨gb, 0, none⟩ = some (.slice none 0 0) := (zf HBX.1 0).trans rfl; have hfz := ze HBX.1 0) | (go_at_call 39; have HBY : Aside0 (Below wr.heap.size wr (w15.setCell ⟨gb, 0, none⟩ (.slice Ai li.length ci))) := ⟨ya HWB.1 HGE.1⟩; have HK := za qK70; refine (impl_CavesWithout_cont.calls #[.pointer (some ⟨gb, 0, none⟩)] (fun s => decide (s ∈ li)) A1 c1 l1 _ (zG HR1.1 (zW HBW.1 HBY.1)) HC1.1 (fun s W' hb' => impl_CavesWithout_1.calls s gb li W' Ai ci (zG (zH HRi.1).2.2 (zW (zW HB.1 HBY.1) hb')) (zH HRi.1).2.1 (zl HK.1 hb'))).mono ?_; rintro e w9 ⟨he, hb⟩; rw [HANY.1] at he; subst he; have n0_ := za (by exact zW (zW HB.1 HBY.1) hb); have n1_ := za (by exact Kd.S_below (Kd.S_below HO.1 HBY.1) hb); have n2_ := za (zl HK.1 hb); clear HB HO HK HBX HWB HBY HBW; have HB := n0_; have HO := n1_; have HK := n2_; clear n0_ n1_ n2_ hb; have hb0 := (zf HK.1 0).trans rfl))
     go_roundg k1
     case measure => omega
     case rel => exact ⟨wrap64 (x + 1), out, rfl, ⟨HX1.1.1, HX1.1.2.1, by rw [HX1.1.2.2, HFT.1, HX.1.2.2, show closedB l1 li = false from by unfold closedB; rw [HANY.1]; rfl]; simp⟩, ⟨Kd.S_mono HO.1 (fun k_ hk_ => by rw [HX1.1.2.2]; omega)⟩, HOB, HB⟩
    | false =>
     have HANY := za hany; clear hany
     go_wp2_with (first | ((with_reducible refine zq (N := 8) rfl ?_); refine zB ?hg (N := 8) ?hd (cs := #[.slice none 0 0]) (t := 32) ?hr ?_; (case hd | hg => rfl); (case hr => exact (qK23)); intro gb hg w15 hbox hb; have HBX := za hbox; have HWB := za hb; have HGE : Aside0 (wr.heap.size ≤ gb) := ⟨by rw [hg]; exact zo _⟩; clear hbox hb hg; have hcz : w15.cell? ⟨gb, 0, none⟩ = some (.slice none 0 0) := (zf HBX.1 0).trans rfl; have hfz := ze HBX.1 0) | (go_at_call 39; have HBY : Aside0 (Below wr.heap.size wr (w15.setCell ⟨gb, 0, none⟩ (.slice Ai li.length ci))) := ⟨ya HWB.1 HGE.1⟩; have HK := za qK70; refine (impl_CavesWithout_cont.calls #[.pointer (some ⟨gb, 0, none⟩)] (fun s => decide (s ∈ li)) A1 c1 l1 _ (zG HR1.1 (zW HBW.1 HBY.1)) HC1.1 (fun s W' hb' => impl_CavesWithout_1.calls s gb li W' Ai ci (zG (zH HRi.1).2.2 (zW (zW HB.1 HBY.1) hb')) (zH HRi.1).2.1 (zl HK.1 hb'))).mono ?_; rintro e w9 ⟨he, hb⟩; rw [HANY.1] at he; subst he; have n0_ := za (by exact zW (zW HB.1 HBY.1) hb); have n1_ := za (by exact Kd.S_below (Kd.S_below HO.1 HBY.1) hb); have n2_ := za (zl HK.1 hb); clear HB HO HK HBX HWB HBY HBW; have HB := n0_; have HO := n1_; have HK := n2_; clear n0_ n1_ n2_ hb; have hb0 := (zf HK.1 0).trans rfl) | ((with_reducible refine zr (b := .append) (xs := #[.tmp 24, .tmp 26]) rfl ?_); at_builtin; refine Kd.S_append (Kd.slice 3 (Kd.int .i64)) (w0 := w) w.heap.size rfl (.tmp 24) (.tmp 26) 26 32 (.slice none 0 0) 24 rfl Try.underlying26 info32 rfl (by decide) (by omega) u6 out li [.slice Ai li.length ci] (fun k_ => w2.heap.size ≤ k_ ∨ f k_ < x.toNat + 1) (fun k_ => k_ < w2.heap.size ∧ f k_ = x.toNat) rfl rfl ?aP ?aK ?aF ?aO ?aB ?aS ?aL ?_; (case aP => exact (by exact ⟨_, rfl, zP (Kd.R_below HRi.1 HB.1) HB1.1.size⟩)); (case aK => exact (by exact fun k_ hk_ => ⟨.inr (Nat.lt_succ_of_le (Nat.le_of_eq hk_.2)), fun e_ => Nat.lt_irrefl _ (Nat.lt_of_lt_of_le hk_.1 (HOB.1 k_ e_.symm))⟩)); (case aF => exact (by exact (fun k_ hk_ => .inl (Nat.le_trans HB.1.size hk_)))); (case aO => exact (by exact Kd.S_mono HO.1 (fun k_ hk_ => ⟨hk_.elim .inl (fun h_ => .inr (Nat.lt_succ_of_lt h_)), fun h_ => hk_.elim (fun h2_ => Nat.lt_irrefl _ (Nat.lt_of_lt_of_le h_.1 h2_)) (fun h2_ => Nat.lt_irrefl _ (Nat.lt_of_lt_of_le h2_ (Nat.le_of_eq h_.2.symm)))⟩))); (case aB => exact (by exact HB2.1.trans (HB.1.mono HB2.1.size))); (case aS => exact (by exact Nat.le_trans HB2.1.size HB.1.size)); (case aL => exact (by have h1_ := HX.1.2.2; have h2_ := HL.1; have h3_ : out.length ≤ all.length := (by rw [h1_]; exact Nat.le_trans (List.length_filter_le _ _) (by rw [List.length_take]; omega)); omega)); intro v213 w23 ho hb hg hat; have HO2 := za ho; have HB3 := za (by exact HB.1.grown hg HB.1.size HOB.1); have HOB2 : Aside0 (∀ k_, v213.ownBlock = some k_ → w2.heap.size ≤ k_) := ⟨fun k_ e_ => by rcases hat with h_ | ⟨b_, h_, h2_⟩; exact HOB.1 k_ (h_ ▸ e_); rw [h_] at e_; injection e_ with e_; rw [← e_]; exact Nat.le_trans HB.1.size h2_⟩; clear ho hb hg hat))
     go_roundg k1
     case measure => omega
     case rel => exact ⟨wrap64 (x + 1), out ++ [li], rfl, ⟨HX1.1.1, HX1.1.2.1, by rw [HX1.1.2.2, HFT.1, HX.1.2.2, show closedB l1 li = true from by unfold closedB; rw [HANY.1]; rfl]; simp⟩, ⟨by rw [HX1.1.2.2]; exact HO2.1⟩, HOB2, HB3⟩
   ·have d0 : decide (x < (all.length : Int)) = false := zv hlt; have HLT := za hlt; clear hlt; have HE2 : Aside0 (out = r1) := ⟨by have h1 := HX.1; have h2 := HLT.1; rw [h1.2.2, List.take_of_length_le (by omega)]; exact HRES.1⟩
    go_wp2
    go_ret2
    exact ⟨_, rfl, by rw [← HE2.1]; exact Kd.S_mono HO.1 (fun _ _ => trivial), HB2.1.trans (HB.1.mono HB2.1.size)⟩


mutual
def spec_CavesWithout.l0 : Nat → List Int → List (List Int) → List (List Int) → Int → Option ((List (List Int)) × Bool)
 | 0, _, _, _, _ => none
 | k + 1, x1, x6, x7, x8 => if x8 < (x7.length : Int) then (spec_CavesWithout.l1 k x1 x6 x7 x8 false 0) else (some (x6, true))
def spec_CavesWithout.l1 : Nat → List Int → List (List Int) → List (List Int) → Int → Bool → Int → Option ((List (List Int)) × Bool)
 | 0, _, _, _, _, _, _ => none
 | k + 1, x1, x6, x7, x8, x9, x10 => if x10 < (x1.length : Int) then (if x9 = true then (spec_CavesWithout.l1 k x1 x6 x7 x8 true (wrap64 (x10 + 1))) else (if 0 ≤ x8 then (if x8 < (x7.length : Int) then (if 0 ≤ x10 then ((spec_l1Has.f k (rd_L5 x7 x8) (rd x1 x10)).bind fun t575 => (spec_CavesWithout.l1 k x1 x6 x7 x8 t575 (wrap64 (x10 + 1)))) else (none)) else (none)) else (none))) else (if x9 = true then (spec_CavesWithout.l0 k x1 x6 x7 (wrap64 (x8 + 1))) else (if 0 ≤ x8 then (if x8 < (x7.length : Int) then (if x6.length < 5864062014805 then (spec_CavesWithout.l0 k x1 (x6 ++ [rd_L5 x7 x8]) x7 (wrap64 (x8 + 1))) else (none)) else (none)) else (none)))
end
def spec_CavesWithout.f (k : Nat) (l0 : List (S72)) (l1 : List Int) : Option ((List (List Int)) × Bool) := (some (([] : List (List Int)) : List (List Int))).bind fun y566 => ((spec_l17Asked.f k l0 l1).bind fun t569 => (if t569 = true then ((spec_l17Caves.f k l0).bind fun t570 => (spec_CavesWithout.l0 k l1 y566 t570 0)) else (some (y566, false))))
theorem spec_CavesWithout.calls (k : Nat) (A0 : Option Addr) (c0 : Nat) (l0 : List (S72)) (A1 : Option Addr) (c1 : Nat) (l1 : List Int) (r1 : List (List Int)) (r2 : Bool) (w : World) (hr0 : Kd.C k72 w A0 l0.length l0) (hc0 : l0.length ≤ c0) (hr1 : Kd.C (Kd.int .i64) w A1 l1.length l1) (hc1 : l1.length ≤ c1) (h : spec_CavesWithout.f k l0 l1 = some (r1, r2)) :
  Calls Try.prog 17 #[.slice A0 l0.length c0, .slice A1 l1.length c1] w fun e w' => ∃ v0_ : Value, e = .returned (.tuple #[v0_, .bool r2]) ∧ Kd.N (Kd.slice 3 (Kd.int .i64)) 32 w' w.heap.size (fun k_ => (w.heap.size ≤ k_)) v0_ r1 ∧ Below w.heap.size w w' := by
 have HR0 := za hr0; have HC0 := za hc0; clear hr0 hc0; have HR1 := za hr1; have HC1 := za hc1; clear hr1 hc1; have HB := za (zs w.heap.size w); have H : ((some (([] : List (List Int)) : List (List Int))).bind fun y566 => ((spec_l17Asked.f k l0 l1).bind fun t569 => (if t569 = true then ((spec_l17Caves.f k l0).bind fun t570 => (spec_CavesWithout.l0 k l1 y566 t570 0)) else (some (y566, false))))) = some (r1, r2) := h; clear h; obtain ⟨y566, hy566⟩ : ∃ y_ : List (List Int), y_ = (([] : List (List Int))) := ⟨_, rfl⟩; replace H : ((spec_l17Asked.f k l0 l1).bind fun t569 => (if t569 = true then ((spec_l17Caves.f k l0).bind fun t570 => (spec_CavesWithout.l0 k l1 y566 t570 0)) else (some (y566, false)))) = some (r1, r2) := (qK4 hy566); have Ny566 := za hy566; clear hy566; replace H := bindA H; obtain ⟨t569, A3, H⟩ := H; (try dsimp only at H)
 by_cases c4 : t569 = true
 ·subst c4; rw [yb rfl] at H; replace H := zC H; obtain ⟨t570, A50, H⟩ := H; replace H : (spec_CavesWithout.l0 k l1 y566 t570 0) = some (r1, r2) := H; have A5 := za A50; clear A50; have H' := za H; clear H
  go_enter Try.func17, Try.ntmps17
  go_wp2_with (first | ((with_reducible refine zq (N := 11) rfl ?_); refine Kd.N_lit (Kd.slice 3 (Kd.int .i64)) _ 32 ?hg (N' := 11) ?hd (xs := ([] : List (List Int))) (inner := []) (ok := (fun k_ => (w.heap.size ≤ k_))) (okp := (fun k_ => (w.heap.size ≤ k_))) ?hr ?hp (fun _ hk => hk) ((show ∀ k_, w.heap.size ≤ k_ → (fun k_ => (w.heap.size ≤ k_)) k_ from fun k_ hk => (Nat.le_trans (zX (qK0)) hk)) _ (zo _)) (zs _ _) (zo _) (by simp) ?_; (case hd | hg => rfl); (case hr => exact (qK23)); (case hp => exact (zu _ _)); intro v567 w6 ho7 hb hg_ hnew_; clear hg_ hnew_; (first | rw [← Ny566.1] at ho7 | (simp only [Int.reduceToNat] at ho7; rw [← Ny566.1] at ho7)); have HO568 := za (qK106 ho7); replace HB := za qK73; clear hb ho7) | (go_at_call 36; (with_reducible refine (spec_l17Asked.calls k _ _ l0 _ _ l1 true _ ?s1 ?s2 ?s3 ?s4 A3.1).mono ?_); (case s1 => exact (qK9 HR0.1)); (case s2 => exact HC0.1); (case s3 => exact (qK9 HR1.1)); (case s4 => exact HC1.1); rintro e w8 ⟨rfl, hb⟩; replace HO568 := za (qK98 HO568.1); replace HB := za qK73; clear hb) | (go_at_call 28; (with_reducible refine (spec_l17Caves.calls k _ _ l0 t570 _ ?s1 ?s2 A5.1).mono ?_); (case s1 => exact (qK9 HR0.1)); (case s2 => exact HC0.1); rintro e w9 ⟨v571, rfl, ho0, hb⟩; have HO572 := za (Kd.N_lower (Kd.N_mono (ok' := fun k_ => (w.heap.size ≤ k_) ∧ some k_ ≠ (v567 : Value).ownBlock) (Kd.S_N (Kd.S_bound ho0)) (fun k_ hk_ => ⟨(Nat.le_trans (zX (qK0)) hk_.2.1), (Kd.fresh' (Kd.N_lt (qK22 HO568.1)) k_ hk_.2.1)⟩)) (zX (qK0))); replace HO568 := za qK107; replace HB := za qK73; clear hb ho0))
  repeat (go_quiet (first | ((with_reducible refine zq (N := 11) rfl ?_); refine Kd.N_lit (Kd.slice 3 (Kd.int .i64)) _ 32 ?hg (N' := 11) ?hd (xs := ([] : List (List Int))) (inner := []) (ok := (fun k_ => (w.heap.size ≤ k_))) (okp := (fun k_ => (w.heap.size ≤ k_))) ?hr ?hp (fun _ hk => hk) ((show ∀ k_, w.heap.size ≤ k_ → (fun k_ => (w.heap.size ≤ k_)) k_ from fun k_ hk => (Nat.le_trans (zX (qK0)) hk)) _ (zo _)) (zs _ _) (zo _) (by simp) ?_; (case hd | hg => rfl); (case hr => exact (qK23)); (case hp => exact (zu _ _)); intro v567 w6 ho7 hb hg_ hnew_; clear hg_ hnew_; (first | rw [← Ny566.1] at ho7 | (simp only [Int.reduceToNat] at ho7; rw [← Ny566.1] at ho7)); have HO568 := za (qK106 ho7); replace HB := za qK73; clear hb ho7) | (go_at_call 36; (with_reducible refine (spec_l17Asked.calls k _ _ l0 _ _ l1 true _ ?s1 ?s2 ?s3 ?s4 A3.1).mono ?_); (case s1 => exact (qK9 HR0.1)); (case s2 => exact HC0.1); (case s3 => exact (qK9 HR1.1)); (case s4 => exact HC1.1); rintro e w8 ⟨rfl, hb⟩; replace HO568 := za (qK98 HO568.1); replace HB := za qK73; clear hb) | (go_at_call 28; (with_reducible refine (spec_l17Caves.calls k _ _ l0 t570 _ ?s1 ?s2 A5.1).mono ?_); (case s1 => exact (qK9 HR0.1)); (case s2 => exact HC0.1); rintro e w9 ⟨v571, rfl, ho0, hb⟩; have HO572 := za (Kd.N_lower (Kd.N_mono (ok' := fun k_ => (w.heap.size ≤ k_) ∧ some k_ ≠ (v567 : Value).ownBlock) (Kd.S_N (Kd.S_bound ho0)) (fun k_ hk_ => ⟨(Nat.le_trans (zX (qK0)) hk_.2.1), (Kd.fresh' (Kd.N_lt (qK22 HO568.1)) k_ hk_.2.1)⟩)) (zX (qK0))); replace HO568 := za qK107; replace HB := za qK73; clear hb ho0)); try go_wp2_with (first | ((with_reducible refine zq (N := 11) rfl ?_); refine Kd.N_lit (Kd.slice 3 (Kd.int .i64)) _ 32 ?hg (N' := 11) ?hd (xs := ([] : List (List Int))) (inner := []) (ok := (fun k_ => (w.heap.size ≤ k_))) (okp := (fun k_ => (w.heap.size ≤ k_))) ?hr ?hp (fun _ hk => hk) ((show ∀ k_, w.heap.size ≤ k_ → (fun k_ => (w.heap.size ≤ k_)) k_ from fun k_ hk => (Nat.le_trans (zX (qK0)) hk)) _ (zo _)) (zs _ _) (zo _) (by simp) ?_; (case hd | hg => rfl); (case hr => exact (qK23)); (case hp => exact (zu _ _)); intro v567 w6 ho7 hb hg_ hnew_; clear hg_ hnew_; (first | rw [← Ny566.1] at ho7 | (simp only [Int.reduceToNat] at ho7; rw [← Ny566.1] at ho7)); have HO568 := za (qK106 ho7); replace HB := za qK73; clear hb ho7) | (go_at_call 36; (with_reducible refine (spec_l17Asked.calls k _ _ l0 _ _ l1 true _ ?s1 ?s2 ?s3 ?s4 A3.1).mono ?_); (case s1 => exact (qK9 HR0.1)); (case s2 => exact HC0.1); (case s3 => exact (qK9 HR1.1)); (case s4 => exact HC1.1); rintro e w8 ⟨rfl, hb⟩; replace HO568 := za (qK98 HO568.1); replace HB := za qK73; clear hb) | (go_at_call 28; (with_reducible refine (spec_l17Caves.calls k _ _ l0 t570 _ ?s1 ?s2 A5.1).mono ?_); (case s1 => exact (qK9 HR0.1)); (case s2 => exact HC0.1); rintro e w9 ⟨v571, rfl, ho0, hb⟩; have HO572 := za (Kd.N_lower (Kd.N_mono (ok' := fun k_ => (w.heap.size ≤ k_) ∧ some k_ ≠ (v567 : Value).ownBlock) (Kd.S_N (Kd.S_bound ho0)) (fun k_ hk_ => ⟨(Nat.le_trans (zX (qK0)) hk_.2.1), (Kd.fresh' (Kd.N_lt (qK22 HO568.1)) k_ hk_.2.1)⟩)) (zX (qK0))); replace HO568 := za qK107; replace HB := za qK73; clear hb ho0)))
  go_loopg [6, 8] k (fun kq v6 v8 w' => ∃ (x6_1 : List (List Int)) (x8_1 : Int), v8 = .int .i64 x8_1 ∧ Aside0 (spec_CavesWithout.l0 kq l1 x6_1 t570 x8_1 = some (r1, r2)) ∧ Aside0 (kq ≤ k) ∧ Aside0 (Kd.N (Kd.slice 3 (Kd.int .i64)) 32 w' w.heap.size (fun k_ => (w.heap.size ≤ k_) ∧ some k_ ≠ (v571 : Value).ownBlock) v6 x6_1) ∧ Aside0 (Kd.N (Kd.slice 3 (Kd.int .i64)) 32 w' w.heap.size (fun k_ => (w.heap.size ≤ k_) ∧ some k_ ≠ (v6 : Value).ownBlock) v571 t570) ∧ Aside0 (Below w.heap.size w w'))
  case atStart => exact ⟨(y566), (0), (qK10), H', ⟨zo _⟩, ⟨(qK22 HO568.1)⟩, ⟨(qK22 HO572.1)⟩, ⟨(qK0)⟩⟩
  case round =>
   clear H'; (try clear c1); (try clear p2); (try clear c4); obtain ⟨x6_1, x8_1, rfl, HA, HK1, HO_6, HO_7, HB⟩ := hrel
   cases gk with
   | zero => exact absurd HA.1 (by simp [spec_CavesWithout.l0])
   | succ k1 =>
    have H := HA.1; clear HA; simp only [spec_CavesWithout.l0] at H
    by_cases c10 : x8_1 < (t570.length : Int)
    ·rw [yb c10] at H; have c10b0 : decide (x8_1 < (t570.length : Int)) = true := zc c10; clear c10; have H' := za H; clear H; obtain ⟨Ao11, co11, eo11⟩ := Kd.N_slice HO_7.1; subst eo11
     go_wp2
     repeat (go_quiet (fail); try go_wp2)
     go_loopg [9, 10] k1 (fun kq v9 v10 w' => ∃ (x9_2 : Bool) (x10_2 : Int), v9 = .bool x9_2 ∧ v10 = .int .i64 x10_2 ∧ Aside0 (spec_CavesWithout.l1 kq l1 x6_1 t570 x8_1 x9_2 x10_2 = some (r1, r2)) ∧ Aside0 (kq ≤ k1) ∧ Aside0 (Kd.N (Kd.slice 3 (Kd.int .i64)) 32 w' w.heap.size (fun k_ => (w.heap.size ≤ k_) ∧ some k_ ≠ ((.slice Ao11 t570.length co11) : Value).ownBlock) u6 x6_1) ∧ Aside0 (Kd.N (Kd.slice 3 (Kd.int .i64)) 32 w' w.heap.size (fun k_ => (w.heap.size ≤ k_) ∧ some k_ ≠ (u6 : Value).ownBlock) (.slice Ao11 t570.length co11) t570) ∧ Aside0 (Below w.heap.size w w'))
     case atStart => exact ⟨(false), (0), (qK10), (qK10), H', ⟨zo _⟩, ⟨(qK22 HO_6.1)⟩, ⟨(qK22 HO_7.1)⟩, ⟨(qK0)⟩⟩
     case round =>
      clear H'; (try clear c1); (try clear p2); (try clear c4); (try clear c10); (try clear c10b0); (try clear p2); obtain ⟨x9_2, x10_2, rfl, rfl, HA, HK2, HO_6, HO_7, HB⟩ := hrel
      cases gk with
      | zero => exact absurd HA.1 (by simp [spec_CavesWithout.l1])
      | succ k2 =>
       have H := HA.1; clear HA; simp only [spec_CavesWithout.l1] at H
       by_cases c12 : x10_2 < (l1.length : Int)
       ·rw [yb c12] at H; have c12b0 : decide (x10_2 < (l1.length : Int)) = true := zc c12; clear c12
        by_cases c13 : x9_2 = true
        ·subst c13; rw [yb rfl] at H; have H' := za H; clear H
         go_wp2
         repeat (go_quiet (fail); try go_wp2)
         go_roundg k2
         case measure => have := HK1.1; have := HK2.1; omega
         case rel => exact ⟨(true), (wrap64 (x10_2 + 1)), (qK10), (qK10), H', ⟨by have := HK1.1; have := HK2.1; omega⟩, ⟨(qK22 HO_6.1)⟩, ⟨(qK22 HO_7.1)⟩, ⟨(qK0)⟩⟩
        ·replace c13 := zn c13; subst c13; rw [yc (show ¬ (false = true) by decide)] at H
         by_cases c14 : 0 ≤ x8_1
         ·rw [yb c14] at H; have c14b0 : decide (0 ≤ x8_1) = true := zc c14; clear c14
          by_cases c15 : x8_1 < (t570.length : Int)
          ·rw [yb c15] at H; have c15b0 : decide (x8_1 < (t570.length : Int)) = true := zc c15; clear c15
           by_cases c16 : 0 ≤ x10_2
           ·rw [yb c16] at H; have c16b0 : decide (0 ≤ x10_2) = true := zc c16; clear c16; replace H := bindA H; obtain ⟨t575, A17, H⟩ := H; (try dsimp only at H); have H' := za H; clear H; have p573 : 0 ≤ (x8_1 : Int) := zb (qK7); have q573 : x8_1 < (t570.length : Int) := zb (qK7); obtain ⟨ad573, A573_0, c573_0, e573, hx573_0, hl573_0, hi573_0⟩ := at_L5 (Kd.N_reads' HO_7.1).2.2 x8_1 p573 q573; cases e573; obtain ⟨ce573, hce573, hMe573, hcc573⟩ := Kd.N_get HO_7.1 [] x8_1 p573 (by first | exact q573 | exact zb (qK7) | (have e_ := (Kd.N_reads' HO_7.1).1; omega)); obtain ⟨ua573_0, uc573_0, rfl, ul573_0, ge573_0⟩ := Kd.FK_slice_open hMe573; have hv573_0 := hcc573 0 _ rfl; rw [Nat.add_zero, show ((Kd.slice 3 (Kd.int .i64))).sz = 1 from rfl, Nat.mul_one] at hv573_0; replace hv573_0 := zm (hv573_0.symm.trans hx573_0)
            injection hv573_0 with hva_ hvn_ hvc_
            rw [hva_] at ge573_0; rw [hvc_] at ul573_0; have HL573_0 := za (by exact show Kd.V (Kd.int .i64) 3 _ w.heap.size _ _ (rd_L5 t570 x8_1) from Kd.V_mk ul573_0 ge573_0); clear hva_ hvn_ hvc_ ge573_0 ul573_0; clear hcc573 hce573; have HR573_0 := za hi573_0; have HC573_0 := za hl573_0; clear hi573_0 hl573_0; replace p573 := zw p573; replace q573 := zw q573; have p574 : 0 ≤ (x10_2 : Int) := zb (qK7); have q574 : x10_2 < (l1.length : Int) := zb (qK7); obtain ⟨ad574, e574, hx574_0⟩ := zJ HR1.1 x10_2 p574 q574; cases e574; replace hx574_0 := (HB.1.cell (zd w _ hx574_0)).trans hx574_0; replace p574 := zw p574; replace q574 := zw q574
            go_wp2_with (first | (go_at_call 38; (with_reducible refine (spec_l1Has.calls k2 _ _ (rd_L5 t570 x8_1) (rd l1 x10_2) t575 _ ?s1 ?s2 A17.1).mono ?_); (case s1 => exact (qK40)); (case s2 => exact HC573_0.1); rintro e w' ⟨rfl, ⟨nd, rfl⟩⟩; (try first | exact ⟨rfl, _, zS _ _ _⟩ | exact ⟨rfl, _, Eq.trans (zS _ _ _) (congrArg (World.drewN _) (Nat.add_assoc _ _ _))⟩)))
            repeat (go_quiet (first | (go_at_call 38; (with_reducible refine (spec_l1Has.calls k2 _ _ (rd_L5 t570 x8_1) (rd l1 x10_2) t575 _ ?s1 ?s2 A17.1).mono ?_); (case s1 => exact (qK40)); (case s2 => exact HC573_0.1); rintro e w' ⟨rfl, ⟨nd, rfl⟩⟩; (try first | exact ⟨rfl, _, zS _ _ _⟩ | exact ⟨rfl, _, Eq.trans (zS _ _ _) (congrArg (World.drewN _) (Nat.add_assoc _ _ _))⟩))); try go_wp2_with (first | (go_at_call 38; (with_reducible refine (spec_l1Has.calls k2 _ _ (rd_L5 t570 x8_1) (rd l1 x10_2) t575 _ ?s1 ?s2 A17.1).mono ?_); (case s1 => exact (qK40)); (case s2 => exact HC573_0.1); rintro e w' ⟨rfl, ⟨nd, rfl⟩⟩; (try first | exact ⟨rfl, _, zS _ _ _⟩ | exact ⟨rfl, _, Eq.trans (zS _ _ _) (congrArg (World.drewN _) (Nat.add_assoc _ _ _))⟩))))
            go_roundg k2
            case measure => have := HK1.1; have := HK2.1; omega
            case rel => exact ⟨(t575), (wrap64 (x10_2 + 1)), (qK10), (qK10), H', ⟨by have := HK1.1; have := HK2.1; omega⟩, ⟨(qK22 HO_6.1)⟩, ⟨(qK22 HO_7.1)⟩, ⟨(qK0)⟩⟩
           ·rw [yc c16] at H
            exact absurd H (by simp)
          ·rw [yc c15] at H
           exact absurd H (by simp)
         ·rw [yc c14] at H
          exact absurd H (by simp)
       ·rw [yc c12] at H; have c12b0 : decide (x10_2 < (l1.length : Int)) = false := zv c12; clear c12
        by_cases c18 : x9_2 = true
        ·subst c18; rw [yb rfl] at H; have H' := za H; clear H
         go_wp2
         repeat (go_quiet (fail); try go_wp2)
         go_roundg k2
         case measure => have := HK1.1; have := HK2.1; omega
         case rel => exact ⟨(x6_1), (wrap64 (x8_1 + 1)), (qK10), H', ⟨by have := HK1.1; have := HK2.1; omega⟩, ⟨(qK22 HO_6.1)⟩, ⟨(qK22 HO_7.1)⟩, ⟨(qK0)⟩⟩
        ·replace c18 := zn c18; subst c18; rw [yc (show ¬ (false = true) by decide)] at H
         by_cases c19 : 0 ≤ x8_1
         ·rw [yb c19] at H; have c19b0 : decide (0 ≤ x8_1) = true := zc c19; clear c19
          by_cases c20 : x8_1 < (t570.length : Int)
          ·rw [yb c20] at H; have c20b0 : decide (x8_1 < (t570.length : Int)) = true := zc c20; clear c20
           by_cases c21 : x6_1.length < 5864062014805
           ·rw [yb c21] at H; have LMc21 := za c21; clear c21; obtain ⟨y577, hy577⟩ : ∃ y_ : List (List Int), y_ = (x6_1 ++ [rd_L5 t570 x8_1]) := ⟨_, rfl⟩; replace H : (spec_CavesWithout.l0 k2 l1 y577 t570 (wrap64 (x8_1 + 1))) = some (r1, r2) := (qK4 hy577); have Ny577 := za hy577; clear hy577; have H' := za H; clear H; have p576 : 0 ≤ (x8_1 : Int) := zb (qK7); have q576 : x8_1 < (t570.length : Int) := zb (qK7); obtain ⟨ad576, A576_0, c576_0, e576, hx576_0, hl576_0, hi576_0⟩ := at_L5 (Kd.N_reads' HO_7.1).2.2 x8_1 p576 q576; cases e576; obtain ⟨ce576, hce576, hMe576, hcc576⟩ := Kd.N_get HO_7.1 [] x8_1 p576 (by first | exact q576 | exact zb (qK7) | (have e_ := (Kd.N_reads' HO_7.1).1; omega)); obtain ⟨ua576_0, uc576_0, rfl, ul576_0, ge576_0⟩ := Kd.FK_slice_open hMe576; have hv576_0 := hcc576 0 _ rfl; rw [Nat.add_zero, show ((Kd.slice 3 (Kd.int .i64))).sz = 1 from rfl, Nat.mul_one] at hv576_0; replace hv576_0 := zm (hv576_0.symm.trans hx576_0)
            injection hv576_0 with hva_ hvn_ hvc_
            rw [hva_] at ge576_0; rw [hvc_] at ul576_0; have HL576_0 := za (by exact show Kd.V (Kd.int .i64) 3 _ w.heap.size _ _ (rd_L5 t570 x8_1) from Kd.V_mk ul576_0 ge576_0); clear hva_ hvn_ hvc_ ge576_0 ul576_0; clear hcc576 hce576; have HR576_0 := za hi576_0; have HC576_0 := za hl576_0; clear hi576_0 hl576_0; replace p576 := zw p576; replace q576 := zw q576
            go_wp2_with (first | ((with_reducible refine zr (b := .append) (xs := #[.tmp 45, .tmp 50]) rfl ?_); at_builtin; refine Kd.N_append (Kd.slice 3 (Kd.int .i64)) (w0 := w) w.heap.size rfl (.tmp 45) (.tmp 50) 26 32 (.slice none 0 0) 24 rfl Try.underlying26 info32 rfl (by decide) (by omega) u6 x6_1 (rd_L5 t570 x8_1) [.slice A576_0 (rd_L5 t570 x8_1).length c576_0] (fun k_ => (w.heap.size ≤ k_) ∧ some k_ ≠ (.slice (some ad576) t570.length co11 : Value).ownBlock) (fun k_ => ((fun k_ => (w.heap.size ≤ k_) ∧ some k_ ≠ (.slice (some ad576) t570.length co11 : Value).ownBlock)) k_ ∧ some k_ ≠ (u6 : Value).ownBlock) rfl rfl ?aP (fun _ hk => hk) ?aF ?aO ?aB ?aS ?aL ?_; (case aP => exact (qK33)); (case aB => exact (qK0)); (case aF => exact (qK100)); (case aO => exact (qK22 HO_6.1)); (case aS => exact (qK91)); (case aL => have := LMc21.1; omega); intro v578 w22 ho hb hg hat; rw [← Ny577.1] at ho; replace HO_7 := za qK103; replace HL576_0 := za qK44; replace HB := za hb; have HO579 := za ho; clear HO_6; clear ho hb hg hat))
            repeat (go_quiet (first | ((with_reducible refine zr (b := .append) (xs := #[.tmp 45, .tmp 50]) rfl ?_); at_builtin; refine Kd.N_append (Kd.slice 3 (Kd.int .i64)) (w0 := w) w.heap.size rfl (.tmp 45) (.tmp 50) 26 32 (.slice none 0 0) 24 rfl Try.underlying26 info32 rfl (by decide) (by omega) u6 x6_1 (rd_L5 t570 x8_1) [.slice A576_0 (rd_L5 t570 x8_1).length c576_0] (fun k_ => (w.heap.size ≤ k_) ∧ some k_ ≠ (.slice (some ad576) t570.length co11 : Value).ownBlock) (fun k_ => ((fun k_ => (w.heap.size ≤ k_) ∧ some k_ ≠ (.slice (some ad576) t570.length co11 : Value).ownBlock)) k_ ∧ some k_ ≠ (u6 : Value).ownBlock) rfl rfl ?aP (fun _ hk => hk) ?aF ?aO ?aB ?aS ?aL ?_; (case aP => exact (qK33)); (case aB => exact (qK0)); (case aF => exact (qK100)); (case aO => exact (qK22 HO_6.1)); (case aS => exact (qK91)); (case aL => have := LMc21.1; omega); intro v578 w22 ho hb hg hat; rw [← Ny577.1] at ho; replace HO_7 := za qK103; replace HL576_0 := za qK44; replace HB := za hb; have HO579 := za ho; clear HO_6; clear ho hb hg hat)); try go_wp2_with (first | ((with_reducible refine zr (b := .append) (xs := #[.tmp 45, .tmp 50]) rfl ?_); at_builtin; refine Kd.N_append (Kd.slice 3 (Kd.int .i64)) (w0 := w) w.heap.size rfl (.tmp 45) (.tmp 50) 26 32 (.slice none 0 0) 24 rfl Try.underlying26 info32 rfl (by decide) (by omega) u6 x6_1 (rd_L5 t570 x8_1) [.slice A576_0 (rd_L5 t570 x8_1).length c576_0] (fun k_ => (w.heap.size ≤ k_) ∧ some k_ ≠ (.slice (some ad576) t570.length co11 : Value).ownBlock) (fun k_ => ((fun k_ => (w.heap.size ≤ k_) ∧ some k_ ≠ (.slice (some ad576) t570.length co11 : Value).ownBlock)) k_ ∧ some k_ ≠ (u6 : Value).ownBlock) rfl rfl ?aP (fun _ hk => hk) ?aF ?aO ?aB ?aS ?aL ?_; (case aP => exact (qK33)); (case aB => exact (qK0)); (case aF => exact (qK100)); (case aO => exact (qK22 HO_6.1)); (case aS => exact (qK91)); (case aL => have := LMc21.1; omega); intro v578 w22 ho hb hg hat; rw [← Ny577.1] at ho; replace HO_7 := za qK103; replace HL576_0 := za qK44; replace HB := za hb; have HO579 := za ho; clear HO_6; clear ho hb hg hat)))
            go_roundg k2
            case measure => have := HK1.1; have := HK2.1; omega
            case rel => exact ⟨(y577), (wrap64 (x8_1 + 1)), (qK10), H', ⟨by have := HK1.1; have := HK2.1; omega⟩, ⟨(qK22 HO579.1)⟩, ⟨(qK22 HO_7.1)⟩, ⟨(qK0)⟩⟩
           ·rw [yc c21] at H
            exact absurd H (by simp)
          ·rw [yc c20] at H
           exact absurd H (by simp)
         ·rw [yc c19] at H
          exact absurd H (by simp)
    ·rw [yc c10] at H; have c10b0 : decide (x8_1 < (t570.length : Int)) = false := zv c10; clear c10; simp only [yd, ye] at H; obtain ⟨rfl, rfl⟩ := H; obtain ⟨Ao23, co23, eo23⟩ := Kd.N_slice HO_7.1; subst eo23
     go_wp2
     repeat (go_quiet (fail); try go_wp2)
     go_ret2
     exact ⟨_, (qK11), (qK58 HO_6.1), (qK0)⟩
 ·replace c4 := zn c4; subst c4; rw [yc (show ¬ (false = true) by decide)] at H; simp only [yd, ye] at H; obtain ⟨rfl, rfl⟩ := H
  go_enter Try.func17, Try.ntmps17
  go_wp2_with (first | ((with_reducible refine zq (N := 11) rfl ?_); refine Kd.N_lit (Kd.slice 3 (Kd.int .i64)) _ 32 ?hg (N' := 11) ?hd (xs := ([] : List (List Int))) (inner := []) (ok := (fun k_ => (w.heap.size ≤ k_))) (okp := (fun k_ => (w.heap.size ≤ k_))) ?hr ?hp (fun _ hk => hk) ((show ∀ k_, w.heap.size ≤ k_ → (fun k_ => (w.heap.size ≤ k_)) k_ from fun k_ hk => (Nat.le_trans (zX (qK0)) hk)) _ (zo _)) (zs _ _) (zo _) (by simp) ?_; (case hd | hg => rfl); (case hr => exact (qK23)); (case hp => exact (zu _ _)); intro v567 w24 ho25 hb hg_ hnew_; clear hg_ hnew_; (first | rw [← Ny566.1] at ho25 | (simp only [Int.reduceToNat] at ho25; rw [← Ny566.1] at ho25)); have HO568 := za (qK106 ho25); replace HB := za qK73; clear hb ho25) | (go_at_call 36; (with_reducible refine (spec_l17Asked.calls k _ _ l0 _ _ l1 false _ ?s1 ?s2 ?s3 ?s4 A3.1).mono ?_); (case s1 => exact (qK9 HR0.1)); (case s2 => exact HC0.1); (case s3 => exact (qK9 HR1.1)); (case s4 => exact HC1.1); rintro e w26 ⟨rfl, hb⟩; replace HO568 := za (qK98 HO568.1); replace HB := za qK73; clear hb))
  repeat (go_quiet (first | ((with_reducible refine zq (N := 11) rfl ?_); refine Kd.N_lit (Kd.slice 3 (Kd.int .i64)) _ 32 ?hg (N' := 11) ?hd (xs := ([] : List (List Int))) (inner := []) (ok := (fun k_ => (w.heap.size ≤ k_))) (okp := (fun k_ => (w.heap.size ≤ k_))) ?hr ?hp (fun _ hk => hk) ((show ∀ k_, w.heap.size ≤ k_ → (fun k_ => (w.heap.size ≤ k_)) k_ from fun k_ hk => (Nat.le_trans (zX (qK0)) hk)) _ (zo _)) (zs _ _) (zo _) (by simp) ?_; (case hd | hg => rfl); (case hr => exact (qK23)); (case hp => exact (zu _ _)); intro v567 w24 ho25 hb hg_ hnew_; clear hg_ hnew_; (first | rw [← Ny566.1] at ho25 | (simp only [Int.reduceToNat] at ho25; rw [← Ny566.1] at ho25)); have HO568 := za (qK106 ho25); replace HB := za qK73; clear hb ho25) | (go_at_call 36; (with_reducible refine (spec_l17Asked.calls k _ _ l0 _ _ l1 false _ ?s1 ?s2 ?s3 ?s4 A3.1).mono ?_); (case s1 => exact (qK9 HR0.1)); (case s2 => exact HC0.1); (case s3 => exact (qK9 HR1.1)); (case s4 => exact HC1.1); rintro e w26 ⟨rfl, hb⟩; replace HO568 := za (qK98 HO568.1); replace HB := za qK73; clear hb)); try go_wp2_with (first | ((with_reducible refine zq (N := 11) rfl ?_); refine Kd.N_lit (Kd.slice 3 (Kd.int .i64)) _ 32 ?hg (N' := 11) ?hd (xs := ([] : List (List Int))) (inner := []) (ok := (fun k_ => (w.heap.size ≤ k_))) (okp := (fun k_ => (w.heap.size ≤ k_))) ?hr ?hp (fun _ hk => hk) ((show ∀ k_, w.heap.size ≤ k_ → (fun k_ => (w.heap.size ≤ k_)) k_ from fun k_ hk => (Nat.le_trans (zX (qK0)) hk)) _ (zo _)) (zs _ _) (zo _) (by simp) ?_; (case hd | hg => rfl); (case hr => exact (qK23)); (case hp => exact (zu _ _)); intro v567 w24 ho25 hb hg_ hnew_; clear hg_ hnew_; (first | rw [← Ny566.1] at ho25 | (simp only [Int.reduceToNat] at ho25; rw [← Ny566.1] at ho25)); have HO568 := za (qK106 ho25); replace HB := za qK73; clear hb ho25) | (go_at_call 36; (with_reducible refine (spec_l17Asked.calls k _ _ l0 _ _ l1 false _ ?s1 ?s2 ?s3 ?s4 A3.1).mono ?_); (case s1 => exact (qK9 HR0.1)); (case s2 => exact HC0.1); (case s3 => exact (qK9 HR1.1)); (case s4 => exact HC1.1); rintro e w26 ⟨rfl, hb⟩; replace HO568 := za (qK98 HO568.1); replace HB := za qK73; clear hb)))
  go_ret2
  exact ⟨_, (qK11), (qK22 HO568.1), (qK0)⟩

mutual
def spec_l17Steps.l0 : Nat → List (S72) → List Int → List Int → Int → Option (List Int)
 | 0, _, _, _, _ => none
 | k + 1, x0, x1, x5, x6 => if x6 < 8 then ((spec_l1Has.f k x1 x6).bind fun t583 => (if t583 = true then (if x5.length < 17592186044416 then (spec_l17Steps.l0 k x0 x1 (x5 ++ [0]) (wrap64 (x6 + 1))) else (none)) else (if x5.length < 17592186044416 then (spec_l17Steps.l0 k x0 x1 (x5 ++ [(-1)]) (wrap64 (x6 + 1))) else (none)))) else (spec_l17Steps.l1 k x0 x5 0)
def spec_l17Steps.l1 : Nat → List (S72) → List Int → Int → Option (List Int)
 | 0, _, _, _ => none
 | k + 1, x0, x5, x7 => if x7 < 8 then (spec_l17Steps.l2 k x0 x5 x7 0) else (some x5)
def spec_l17Steps.l2 : Nat → List (S72) → List Int → Int → Int → Option (List Int)
 | 0, _, _, _, _ => none
 | k + 1, x0, x5, x7, x8 => if x8 < (x0.length : Int) then (if 0 ≤ x8 then (if 0 ≤ ((rd_T72 x0 x8).f0) then (if ((rd_T72 x0 x8).f0) < (x5.length : Int) then (if (rd x5 ((rd_T72 x0 x8).f0)) = x7 then (if 0 ≤ ((rd_T72 x0 x8).f1) then (if ((rd_T72 x0 x8).f1) < (x5.length : Int) then (spec_l17Steps.j3 k x0 x5 x7 x8 ((rd_T72 x0 x8).f0) ((rd_T72 x0 x8).f1) (decide ((rd x5 ((rd_T72 x0 x8).f1)) < 0))) else (none)) else (none)) else (spec_l17Steps.j3 k x0 x5 x7 x8 ((rd_T72 x0 x8).f0) ((rd_T72 x0 x8).f1) false)) else (none)) else (none)) else (none)) else (spec_l17Steps.l1 k x0 x5 (wrap64 (x7 + 1)))
def spec_l17Steps.j3 : Nat → List (S72) → List Int → Int → Int → Int → Int → Bool → Option (List Int)
 | 0, _, _, _, _, _, _, _ => none
 | k + 1, x0, x5, x7, x8, x9, x10, x57 => if x57 = true then (if 0 ≤ x10 then (if x10 < (x5.length : Int) then ((some (x5.set (x10 : Int).toNat (wrap64 (x7 + 1)) : List Int)).bind fun y594 => (if (rd y594 x10) = x7 then (if 0 ≤ x9 then (if x9 < (x5.length : Int) then (if (rd y594 x9) < 0 then (spec_l17Steps.l2 k x0 (y594.set (x9 : Int).toNat (wrap64 (x7 + 1))) x7 (wrap64 (x8 + 1))) else (spec_l17Steps.l2 k x0 y594 x7 (wrap64 (x8 + 1)))) else (none)) else (none)) else (spec_l17Steps.l2 k x0 y594 x7 (wrap64 (x8 + 1))))) else (none)) else (none)) else (if 0 ≤ x10 then (if x10 < (x5.length : Int) then (if (rd x5 x10) = x7 then (if 0 ≤ x9 then (if x9 < (x5.length : Int) then (if (rd x5 x9) < 0 then (spec_l17Steps.l2 k x0 (x5.set (x9 : Int).toNat (wrap64 (x7 + 1))) x7 (wrap64 (x8 + 1))) else (spec_l17Steps.l2 k x0 x5 x7 (wrap64 (x8 + 1)))) else (none)) else (none)) else (spec_l17Steps.l2 k x0 x5 x7 (wrap64 (x8 + 1)))) else (none)) else (none))
end
def spec_l17Steps.f (k : Nat) (l0 : List (S72)) (l1 : List Int) : Option (List Int) := spec_l17Steps.l0 k l0 l1 (([] : List Int)) 0
theorem spec_l17Steps.calls (k : Nat) (A0 : Option Addr) (c0 : Nat) (l0 : List (S72)) (A1 : Option Addr) (c1 : Nat) (l1 : List Int) (r : List Int) (w : World) (hr0 : Kd.C k72 w A0 l0.length l0) (hc0 : l0.length ≤ c0) (hr1 : Kd.C (Kd.int .i64) w A1 l1.length l1) (hc1 : l1.length ≤ c1) (h : spec_l17Steps.f k l0 l1 = some r) :
  Calls Try.prog 42 #[.slice A0 l0.length c0, .slice A1 l1.length c1] w fun e w' => ∃ v0_ : Value, e = .returned (v0_) ∧ Kd.R (Kd.int .i64) 3 w' w.heap.size (fun _ => True) v0_ r ∧ Below w.heap.size w w' := by
 have HR0 := za hr0; have HC0 := za hc0; clear hr0 hc0; have HR1 := za hr1; have HC1 := za hc1; clear hr1 hc1; have HB := za (zs w.heap.size w); have H : (spec_l17Steps.l0 k l0 l1 (([] : List Int)) 0) = some r := h; clear h; obtain ⟨y580, hy580⟩ : ∃ y_ : List Int, y_ = (([] : List Int)) := ⟨_, rfl⟩; replace H : (spec_l17Steps.l0 k l0 l1 y580 0) = some r := (qK4 hy580); have Ny580 := za hy580; clear hy580; have H' := za H; clear H
 go_enter Try.func42, Try.ntmps42
 go_wp2_with (first | ((with_reducible refine zq (N := 11) rfl ?_); refine zQ (Kd.int .i64) _ 3 ?hg (N := 11) ?hd (xs := ([] : List Int)) (inner := []) (ok := fun _ => True) (okp := fun _ => True) ?hr ?hp (fun _ hk => hk) trivial (zs _ _) (zo _) (by simp) ?_; (case hd | hg => rfl); (case hr => exact (qK23)); (case hp => exact (zu _ _)); intro v581 w3 ho4 hb hg_ hnew_; clear hg_ hnew_; (first | rw [← Ny580.1] at ho4 | (simp only [Int.reduceToNat] at ho4; rw [← Ny580.1] at ho4)); have HO582 := za (qK80 ho4); replace HB := za qK73; clear hb ho4))
 go_loopg [5, 6] k (fun kq v5 v6 w' => ∃ (x5_1 : List Int) (x6_1 : Int), v6 = .int .i64 x6_1 ∧ Aside0 (spec_l17Steps.l0 kq l0 l1 x5_1 x6_1 = some r) ∧ Aside0 (kq ≤ k) ∧ Aside0 (Kd.R (Kd.int .i64) 3 w' w.heap.size (fun _ => True) v5 x5_1) ∧ Aside0 (Below w.heap.size w w'))
 case atStart => exact ⟨(y580), (0), (qK10), H', ⟨zo _⟩, ⟨(qK1 HO582.1)⟩, ⟨(qK0)⟩⟩
 case round =>
  clear H'; (try clear c1); (try clear p2); (try clear c4); obtain ⟨x5_1, x6_1, rfl, HA, HK1, HO_5, HB⟩ := hrel
  cases gk with
  | zero => exact absurd HA.1 (by simp [spec_l17Steps.l0])
  | succ k1 =>
   have H := HA.1; clear HA; simp only [spec_l17Steps.l0] at H
   by_cases c5 : x6_1 < 8
   ·rw [yb c5] at H; have c5b0 : decide (x6_1 < 8) = true := zc c5; clear c5; replace H := bindA H; obtain ⟨t583, A6, H⟩ := H; (try dsimp only at H)
    by_cases c7 : t583 = true
    ·subst c7; rw [yb rfl] at H
     by_cases c8 : x5_1.length < 17592186044416
     ·rw [yb c8] at H; have LMc8 := za c8; clear c8; obtain ⟨y584, hy584⟩ : ∃ y_ : List Int, y_ = (x5_1 ++ [0]) := ⟨_, rfl⟩; replace H : (spec_l17Steps.l0 k1 l0 l1 y584 (wrap64 (x6_1 + 1))) = some r := (qK4 hy584); have Ny584 := za hy584; clear hy584; have H' := za H; clear H
      go_wp2_with (first | (go_at_call 38; (with_reducible refine (spec_l1Has.calls k1 _ _ l1 x6_1 true _ ?s1 ?s2 A6.1).mono ?_); (case s1 => exact (qK9 HR1.1)); (case s2 => exact HC1.1); rintro e w' ⟨rfl, ⟨nd, rfl⟩⟩; (try first | exact ⟨rfl, _, zS _ _ _⟩ | exact ⟨rfl, _, Eq.trans (zS _ _ _) (congrArg (World.drewN _) (Nat.add_assoc _ _ _))⟩)) | ((with_reducible refine zr (b := .append) (xs := #[.tmp 19, .tmp 20]) rfl ?_); at_builtin; refine Kd.R_append (Kd.int .i64) (w0 := w) w.heap.size rfl (.tmp 19) (.tmp 20) 32 3 (.int .i64 0) 8 rfl Try.underlying32 info3 rfl (by decide) (by omega) u5 x5_1 0 [.int .i64 0] (fun _ => True) (fun _ => False) rfl rfl ?aP (fun _ hk => hk.elim) ?aF ?aO ?aB ?aS ?aL ?_; (case aP => exact rfl); (case aB => exact (qK0)); (case aF => exact (fun _ _ => trivial)); (case aO => exact (qK1 HO_5.1)); (case aS => exact (qK91)); (case aL => have := LMc8.1; omega); intro v585 w9 ho hb hg hat; rw [← Ny584.1] at ho; replace HB := za hb; have HO586 := za ho; clear HO_5; clear ho hb hg hat))
      go_roundg k1
      case measure => have := HK1.1; omega
      case rel => exact ⟨(y584), (wrap64 (x6_1 + 1)), (qK10), H', ⟨by have := HK1.1; omega⟩, ⟨(qK1 HO586.1)⟩, ⟨(qK0)⟩⟩
     ·rw [yc c8] at H
      exact absurd H (by simp)
    ·replace c7 := zn c7; subst c7; rw [yc (show ¬ (false = true) by decide)] at H
     by_cases c10 : x5_1.length < 17592186044416
     ·rw [yb c10] at H; have LMc10 := za c10; clear c10; obtain ⟨y587, hy587⟩ : ∃ y_ : List Int, y_ = (x5_1 ++ [(-1)]) := ⟨_, rfl⟩; replace H : (spec_l17Steps.l0 k1 l0 l1 y587 (wrap64 (x6_1 + 1))) = some r := (qK4 hy587); have Ny587 := za hy587; clear hy587; have H' := za H; clear H
      go_wp2_with (first | (go_at_call 38; (with_reducible refine (spec_l1Has.calls k1 _ _ l1 x6_1 false _ ?s1 ?s2 A6.1).mono ?_); (case s1 => exact (qK9 HR1.1)); (case s2 => exact HC1.1); rintro e w' ⟨rfl, ⟨nd, rfl⟩⟩; (try first | exact ⟨rfl, _, zS _ _ _⟩ | exact ⟨rfl, _, Eq.trans (zS _ _ _) (congrArg (World.drewN _) (Nat.add_assoc _ _ _))⟩)) | ((with_reducible refine zr (b := .append) (xs := #[.tmp 22, .tmp 23]) rfl ?_); at_builtin; refine Kd.R_append (Kd.int .i64) (w0 := w) w.heap.size rfl (.tmp 22) (.tmp 23) 32 3 (.int .i64 0) 8 rfl Try.underlying32 info3 rfl (by decide) (by omega) u5 x5_1 (-1) [.int .i64 (-1)] (fun _ => True) (fun _ => False) rfl rfl ?aP (fun _ hk => hk.elim) ?aF ?aO ?aB ?aS ?aL ?_; (case aP => exact rfl); (case aB => exact (qK0)); (case aF => exact (fun _ _ => trivial)); (case aO => exact (qK1 HO_5.1)); (case aS => exact (qK91)); (case aL => have := LMc10.1; omega); intro v588 w11 ho hb hg hat; rw [← Ny587.1] at ho; replace HB := za hb; have HO589 := za ho; clear HO_5; clear ho hb hg hat))
      go_roundg k1
      case measure => have := HK1.1; omega
      case rel => exact ⟨(y587), (wrap64 (x6_1 + 1)), (qK10), H', ⟨by have := HK1.1; omega⟩, ⟨(qK1 HO589.1)⟩, ⟨(qK0)⟩⟩
     ·rw [yc c10] at H
      exact absurd H (by simp)
   ·rw [yc c5] at H; have c5b0 : decide (x6_1 < 8) = false := zv c5; clear c5; have H' := za H; clear H
    go_wp2
    repeat (go_quiet (fail); try go_wp2)
    go_loopg [7] k1 (fun kq v7 w' => ∃ (x5_2 : List Int) (x7_2 : Int), v7 = .int .i64 x7_2 ∧ Aside0 (spec_l17Steps.l1 kq l0 x5_2 x7_2 = some r) ∧ Aside0 (kq ≤ k1) ∧ Aside0 (Kd.R (Kd.int .i64) 3 w' w.heap.size (fun _ => True) u5 x5_2) ∧ Aside0 (Below w.heap.size w w'))
    case atStart => exact ⟨(x5_1), (0), (qK10), H', ⟨zo _⟩, ⟨(qK1 HO_5.1)⟩, ⟨(qK0)⟩⟩
    case round =>
     clear H'; (try clear c1); (try clear p2); (try clear c4); (try clear c5); (try clear c5b0); (try clear p6); (try clear c7); (try clear c8); (try clear c10); (try clear p2); obtain ⟨x5_2, x7_2, rfl, HA, HK2, HO_5, HB⟩ := hrel
     cases gk with
     | zero => exact absurd HA.1 (by simp [spec_l17Steps.l1])
     | succ k2 =>
      have H := HA.1; clear HA; simp only [spec_l17Steps.l1] at H
      by_cases c12 : x7_2 < 8
      ·rw [yb c12] at H; have c12b0 : decide (x7_2 < 8) = true := zc c12; clear c12; have H' := za H; clear H
       go_wp2
       repeat (go_quiet (fail); try go_wp2)
       go_loopg [8] k2 (fun kq v8 w' => ∃ (x5_3 : List Int) (x8_3 : Int), v8 = .int .i64 x8_3 ∧ Aside0 (spec_l17Steps.l2 kq l0 x5_3 x7_2 x8_3 = some r) ∧ Aside0 (kq ≤ k2) ∧ Aside0 (Kd.R (Kd.int .i64) 3 w' w.heap.size (fun _ => True) u5 x5_3) ∧ Aside0 (Below w.heap.size w w'))
       case atStart => exact ⟨(x5_2), (0), (qK10), H', ⟨zo _⟩, ⟨(qK1 HO_5.1)⟩, ⟨(qK0)⟩⟩
       case round =>
        clear H'; (try clear c1); (try clear p2); (try clear c4); (try clear c5); (try clear c5b0); (try clear p6); (try clear c7); (try clear c8); (try clear c10); (try clear c12); (try clear c12b0); (try clear p2); (try clear p6); obtain ⟨x5_3, x8_3, rfl, HA, HK3, HO_5, HB⟩ := hrel
        cases gk with
        | zero => exact absurd HA.1 (by simp [spec_l17Steps.l2])
        | succ k3 =>
         have H := HA.1; clear HA; simp only [spec_l17Steps.l2] at H
         by_cases c13 : x8_3 < (l0.length : Int)
         ·rw [yb c13] at H; have c13b0 : decide (x8_3 < (l0.length : Int)) = true := zc c13; clear c13
          by_cases c14 : 0 ≤ x8_3
          ·rw [yb c14] at H; have c14b0 : decide (0 ≤ x8_3) = true := zc c14; clear c14; have HC15 := za H; clear H; have p590 : 0 ≤ (x8_3 : Int) := zb (qK7); have q590 : x8_3 < (l0.length : Int) := zb (qK7); obtain ⟨ad590, e590, hx590_0, hx590_1, hx590_2, hx590_3, hx590_4⟩ := at_T72 HR0.1 x8_3 p590 q590; cases e590; replace hx590_0 := (HB.1.cell (zd w _ hx590_0)).trans hx590_0; replace hx590_1 := (HB.1.cell (zd w _ hx590_1)).trans hx590_1; replace hx590_2 := (HB.1.cell (zd w _ hx590_2)).trans hx590_2; replace hx590_3 := (HB.1.cell (zd w _ hx590_3)).trans hx590_3; replace hx590_4 := (HB.1.cell (zd w _ hx590_4)).trans hx590_4; replace p590 := zw p590; replace q590 := zw q590; have p591 : 0 ≤ (x8_3 : Int) := zb (qK7); have q591 : x8_3 < (l0.length : Int) := zb (qK7); obtain ⟨ad591, e591, hx591_0, hx591_1, hx591_2, hx591_3, hx591_4⟩ := at_T72 HR0.1 x8_3 p591 q591; obtain rfl : ad590 = ad591 := (by injection e591); replace hx591_0 := (HB.1.cell (zd w _ hx591_0)).trans hx591_0; replace hx591_1 := (HB.1.cell (zd w _ hx591_1)).trans hx591_1; replace hx591_2 := (HB.1.cell (zd w _ hx591_2)).trans hx591_2; replace hx591_3 := (HB.1.cell (zd w _ hx591_3)).trans hx591_3; replace hx591_4 := (HB.1.cell (zd w _ hx591_4)).trans hx591_4
           replace p591 := zw p591; replace q591 := zw q591
           go_upto_region 15 with (fail)
           repeat (go_quiet (fail); go_upto_region 15 with (fail))
           go_cut [57] (fun v57 wc => ∃ (kq : Nat) (x57_14 : Bool), v57 = .bool x57_14 ∧ Aside0 (spec_l17Steps.j3 kq l0 x5_3 x7_2 x8_3 ((rd_T72 l0 x8_3).f0) ((rd_T72 l0 x8_3).f1) x57_14 = some r) ∧ Aside0 (kq ≤ k3) ∧ Aside0 (Kd.R (Kd.int .i64) 3 wc w.heap.size (fun _ => True) u5 x5_3) ∧ Aside0 (Below w.heap.size w wc))
           case first =>
            have H := HC15.1; clear HC15
            by_cases c16 : 0 ≤ ((rd_T72 l0 x8_3).f0)
            ·rw [yb c16] at H; have c16b0 : decide (0 ≤ ((rd_T72 l0 x8_3).f0)) = true := zc c16; clear c16
             (first | rw [c16b0] | (simp only [i64_w, i32_w]; rw [c16b0]) | skip)
             by_cases c17 : ((rd_T72 l0 x8_3).f0) < (x5_3.length : Int)
             ·rw [yb c17] at H; have c17b0 : decide (((rd_T72 l0 x8_3).f0) < (x5_3.length : Int)) = true := zc c17; clear c17
              by_cases c18 : (rd x5_3 ((rd_T72 l0 x8_3).f0)) = x7_2
              ·rw [yb c18] at H; have c18b0 : ((rd x5_3 ((rd_T72 l0 x8_3).f0)) == x7_2) = true := zT c18; have c18b1 : ((rd x5_3 ((rd_T72 l0 x8_3).f0)) != x7_2) = false := zy c18; clear c18
               by_cases c19 : 0 ≤ ((rd_T72 l0 x8_3).f1)
               ·rw [yb c19] at H; have c19b0 : decide (0 ≤ ((rd_T72 l0 x8_3).f1)) = true := zc c19; clear c19
                by_cases c20 : ((rd_T72 l0 x8_3).f1) < (x5_3.length : Int)
                ·rw [yb c20] at H; have c20b0 : decide (((rd_T72 l0 x8_3).f1) < (x5_3.length : Int)) = true := zc c20; clear c20; have H' := za H; clear H; obtain ⟨Ao21, co21, eo21⟩ := zI HO_5.1; subst eo21; have p592 : 0 ≤ (((rd_T72 l0 x8_3).f0) : Int) := zb (qK7); have q592 : ((rd_T72 l0 x8_3).f0) < (x5_3.length : Int) := zb (qK7); obtain ⟨ad592, e592, hx592_0⟩ := zJ (zH HO_5.1).2.2 ((rd_T72 l0 x8_3).f0) p592 q592; cases e592; replace p592 := zw p592; replace q592 := zw q592; have p593 : 0 ≤ (((rd_T72 l0 x8_3).f1) : Int) := zb (qK7); have q593 : ((rd_T72 l0 x8_3).f1) < (x5_3.length : Int) := zb (qK7); obtain ⟨ad593, e593, hx593_0⟩ := zJ (zH HO_5.1).2.2 ((rd_T72 l0 x8_3).f1) p593 q593; obtain rfl : ad592 = ad593 := (by injection e593); replace p593 := zw p593; replace q593 := zw q593
                 go_wp2
                 repeat (go_quiet (fail); try go_wp2)
                 go_meet
                 case rel => exact ⟨_, (decide ((rd x5_3 ((rd_T72 l0 x8_3).f1)) < 0)), (qK10), H', ⟨by have := HK1.1; have := HK2.1; have := HK3.1; first | omega | exact zo _⟩, ⟨(qK1 HO_5.1)⟩, ⟨(qK0)⟩⟩
                ·rw [yc c20] at H
                 exact absurd H (by simp)
               ·rw [yc c19] at H
                exact absurd H (by simp)
              ·rw [yc c18] at H; have c18b0 : ((rd x5_3 ((rd_T72 l0 x8_3).f0)) == x7_2) = false := zx c18; have c18b1 : ((rd x5_3 ((rd_T72 l0 x8_3).f0)) != x7_2) = true := zU c18; have H' := za H; clear H; obtain ⟨Ao22, co22, eo22⟩ := zI HO_5.1; subst eo22; have p592 : 0 ≤ (((rd_T72 l0 x8_3).f0) : Int) := zb (qK7); have q592 : ((rd_T72 l0 x8_3).f0) < (x5_3.length : Int) := zb (qK7); obtain ⟨ad592, e592, hx592_0⟩ := zJ (zH HO_5.1).2.2 ((rd_T72 l0 x8_3).f0) p592 q592; cases e592; replace p592 := zw p592; replace q592 := zw q592
               go_wp2
               repeat (go_quiet (fail); try go_wp2)
               go_meet
               case rel => exact ⟨_, (false), (qK10), H', ⟨by have := HK1.1; have := HK2.1; have := HK3.1; first | omega | exact zo _⟩, ⟨(qK1 HO_5.1)⟩, ⟨(qK0)⟩⟩
             ·rw [yc c17] at H
              exact absurd H (by simp)
            ·rw [yc c16] at H
             exact absurd H (by simp)
           case rest =>
            clear HC15; (try clear c1); (try clear c2); (try clear p2); (try clear c4); (try clear c5); (try clear c5b0); (try clear p5); (try clear q5); (try clear hx5); (try clear p6); (try clear c7); (try clear c8); (try clear c10); (try clear c12); (try clear c12b0); (try clear c13); (try clear c13b0); (try clear c14); (try clear c14b0); (try clear c16); (try clear c16b0); (try clear c17); (try clear c17b0); (try clear c18); (try clear c18b0); (try clear c18b1); (try clear c19); (try clear c19b0); (try clear c20); (try clear c20b0); (try clear hx590_0); (try clear hx590_1); (try clear hx590_2); (try clear hx590_3); (try clear hx590_4); (try clear hx591_0); (try clear hx591_1); (try clear hx591_2); (try clear hx591_3); (try clear hx591_4); (try clear hx592_0); (try clear hx593_0); (try clear p2); (try clear p590); (try clear p591); (try clear p592); (try clear p593); (try clear p6); (try clear q590); (try clear q591); (try clear q592); (try clear q593); obtain ⟨kq, x57_14, rfl, HA, HJ14, HO_5, HB⟩ := hcut
            cases kq with
            | zero => exact absurd HA.1 (by simp [spec_l17Steps.j3])
            | succ kj14 =>
             have H := HA.1; clear HA; simp only [spec_l17Steps.j3] at H
             by_cases c23 : x57_14 = true
             ·subst c23; rw [yb rfl] at H
              by_cases c24 : 0 ≤ ((rd_T72 l0 x8_3).f1)
              ·rw [yb c24] at H; have c24b0 : decide (0 ≤ ((rd_T72 l0 x8_3).f1)) = true := zc c24; clear c24
               by_cases c25 : ((rd_T72 l0 x8_3).f1) < (x5_3.length : Int)
               ·rw [yb c25] at H; have c25b0 : decide (((rd_T72 l0 x8_3).f1) < (x5_3.length : Int)) = true := zc c25; clear c25; obtain ⟨y594, hy594⟩ : ∃ y_ : List Int, y_ = (x5_3.set (((rd_T72 l0 x8_3).f1) : Int).toNat (wrap64 (x7_2 + 1))) := ⟨_, rfl⟩; replace H : (if (rd y594 ((rd_T72 l0 x8_3).f1)) = x7_2 then (if 0 ≤ ((rd_T72 l0 x8_3).f0) then (if ((rd_T72 l0 x8_3).f0) < (x5_3.length : Int) then (if (rd y594 ((rd_T72 l0 x8_3).f0)) < 0 then (spec_l17Steps.l2 kj14 l0 (y594.set (((rd_T72 l0 x8_3).f0) : Int).toNat (wrap64 (x7_2 + 1))) x7_2 (wrap64 (x8_3 + 1))) else (spec_l17Steps.l2 kj14 l0 y594 x7_2 (wrap64 (x8_3 + 1)))) else (none)) else (none)) else (spec_l17Steps.l2 kj14 l0 y594 x7_2 (wrap64 (x8_3 + 1)))) = some r := (qK4 hy594); have Ny594 := za hy594; clear hy594
                by_cases c27 : (rd y594 ((rd_T72 l0 x8_3).f1)) = x7_2
                ·rw [yb c27] at H; have c27b0 : ((rd y594 ((rd_T72 l0 x8_3).f1)) == x7_2) = true := zT c27; have c27b1 : ((rd y594 ((rd_T72 l0 x8_3).f1)) != x7_2) = false := zy c27; clear c27
                 by_cases c28 : 0 ≤ ((rd_T72 l0 x8_3).f0)
                 ·rw [yb c28] at H; have c28b0 : decide (0 ≤ ((rd_T72 l0 x8_3).f0)) = true := zc c28; clear c28
                  by_cases c29 : ((rd_T72 l0 x8_3).f0) < (x5_3.length : Int)
                  ·rw [yb c29] at H; have c29b0 : decide (((rd_T72 l0 x8_3).f0) < (x5_3.length : Int)) = true := zc c29; clear c29
                   by_cases c30 : (rd y594 ((rd_T72 l0 x8_3).f0)) < 0
                   ·rw [yb c30] at H; have c30b0 : decide ((rd y594 ((rd_T72 l0 x8_3).f0)) < 0) = true := zc c30; clear c30; obtain ⟨y597, hy597⟩ : ∃ y_ : List Int, y_ = (y594.set (((rd_T72 l0 x8_3).f0) : Int).toNat (wrap64 (x7_2 + 1))) := ⟨_, rfl⟩; replace H : (spec_l17Steps.l2 kj14 l0 y597 x7_2 (wrap64 (x8_3 + 1))) = some r := (qK4 hy597); have Ny597 := za hy597; clear hy597; have H' := za H; clear H; have p26 : 0 ≤ (((rd_T72 l0 x8_3).f1) : Int) := zb (qK7); have q26 : (((rd_T72 l0 x8_3).f1) : Int) < ((x5_3.length : Int) : Int) := zb (qK7); obtain ⟨go26, co26, eo26, gb26, gl26, cl26, HG26⟩ := Kd.R_form HO_5.1 (by omega)
                    (first | cases eo26 | (injection eo26 with ea_ en_ ec_; (first | subst ea_ | (injection ea_ with ea_; subst ea_)); subst ec_; clear en_))
                    have GB26 := za gb26; have GG26 := za HG26; clear gb26 gl26 HG26; obtain ⟨hx26_0, hf26_0⟩ := Kd.R_celln 0 HO_5.1 (((rd_T72 l0 x8_3).f1) : Int) p26 q26; replace p26 := zw p26; replace q26 := zw q26; have HP32 := Kd.R_putg HO_5.1 (((rd_T72 l0 x8_3).f1) : Int) (wrap64 (x7_2 + 1))
                    go_wp2_with (first | ((with_reducible refine gate_store (t := 3) (p := 62) rfl ?_); (try (rw [drewN_self wc]; generalize hq_ : World.drewN wc _ = wc; replace HO_5 := za (Kd.R_at hq_ HO_5.1); replace HB := za (below_at hq_ HB.1); clear hq_; (try (have HP32 := Kd.R_putg HO_5.1 (((rd_T72 l0 x8_3).f1) : Int) (wrap64 (x7_2 + 1)))))); refine store_event (t := 3) (p := 62) (v := ?vo_w33) (w1 := (wc.setCell ⟨go26, (((rd_T72 l0 x8_3).f1) : Int).toNat, none⟩ (.int .i64 (wrap64 (x7_2 + 1))))) ?hg ?ho ?hn ?hr ?_; (case ho => rfl); (case hg => rfl); (case hn => rfl); (case hr => exact (qK23)); intro w33 hw; have hg : wc.grownBy w33 (some go26) := (by rw [hw]; exact HP32.2); have hp_ : Kd.R (Kd.int .i64) 3 w33 w.heap.size (fun _ => True) (.slice (some ⟨go26, 0, none⟩) x5_3.length co26) y594 := (by rw [hw, Ny594.1]; exact HP32.1); clear HP32; have n0_ := za hp_; have n1_ := za (by exact (by rw [hw]; exact ya (HB.1) GB26.1 : Below w.heap.size w w33)); clear HO_5 HB; have HO_5 := n0_; have HB := n1_; clear n0_ n1_; clear hg hw hp_; have p595 : 0 ≤ (((rd_T72 l0 x8_3).f1) : Int) := zb (qK7); have q595 : ((rd_T72 l0 x8_3).f1) < (y594.length : Int) := (by have h_ : (((rd_T72 l0 x8_3).f1) : Int) < ((x5_3.length : Int) : Int) := zb (qK7); first | (have e_ := (zH HO_5.1).1; omega) | simpa only [Ny594.1, List.length_set] using h_); have ql595 : ((((rd_T72 l0 x8_3).f1) : Int) < ((x5_3.length : Int) : Int)) = True := zw (zb (qK7)); obtain ⟨ad595, e595, hx595_0⟩ := zJ (zH HO_5.1).2.2 ((rd_T72 l0 x8_3).f1) p595 q595; obtain rfl : (⟨go26, 0, none⟩ : Addr) = ad595 := (by injection e595); (first | simp only [add_plain] at hx595_0 | simp only [add_at] at hx595_0 | simp only [Addr.add, Nat.zero_add] at hx595_0 | skip); replace p595 := zw p595; replace q595 := zw q595; have p596 : 0 ≤ (((rd_T72 l0 x8_3).f0) : Int) := zb (qK7); have q596 : ((rd_T72 l0 x8_3).f0) < (y594.length : Int) := (by have h_ : (((rd_T72 l0 x8_3).f0) : Int) < ((x5_3.length : Int) : Int) := zb (qK7); first | (have e_ := (zH HO_5.1).1; omega) | simpa only [Ny594.1, List.length_set] using h_); have ql596 : ((((rd_T72 l0 x8_3).f0) : Int) < ((x5_3.length : Int) : Int)) = True := zw (zb (qK7)); obtain ⟨ad596, e596, hx596_0⟩ := zJ (zH HO_5.1).2.2 ((rd_T72 l0 x8_3).f0) p596 q596; obtain rfl : (⟨go26, 0, none⟩ : Addr) = ad596 := (by injection e596); (first | simp only [add_plain] at hx596_0 | simp only [add_at] at hx596_0 | simp only [Addr.add, Nat.zero_add] at hx596_0 | skip); replace p596 := zw p596; replace q596 := zw q596; have p31 : 0 ≤ (((rd_T72 l0 x8_3).f0) : Int) := zb (qK7); have q31 : (((rd_T72 l0 x8_3).f0) : Int) < ((x5_3.length : Int) : Int) := zb (qK7); obtain ⟨hx31_0, hf31_0⟩ := Kd.R_celln 0 HO_5.1 (((rd_T72 l0 x8_3).f0) : Int) p31 q31; replace p31 := zw p31; replace q31 := zw q31; obtain ⟨hy34_, hz34_⟩ := Kd.R_celln 0 HO_5.1 (((rd_T72 l0 x8_3).f0) : Int) (zb (qK7)) (zb (qK7)); have HP34 := Kd.R_putg HO_5.1 (((rd_T72 l0 x8_3).f0) : Int) (wrap64 (x7_2 + 1))) | ((with_reducible refine gate_store (t := 3) (p := 80) rfl ?_); (try (rw [drewN_self w33]; generalize hq_ : World.drewN w33 _ = w33; replace HO_5 := za (Kd.R_at hq_ HO_5.1); replace HB := za (below_at hq_ HB.1); clear hq_; (try (obtain ⟨hy34_, hz34_⟩ := Kd.R_celln 0 HO_5.1 (((rd_T72 l0 x8_3).f0) : Int) (zb (qK7)) (zb (qK7)))); (try (have HP34 := Kd.R_putg HO_5.1 (((rd_T72 l0 x8_3).f0) : Int) (wrap64 (x7_2 + 1)))))); refine store_event (t := 3) (p := 80) (v := ?vo_w35) (w1 := (w33.setCell ⟨go26, (((rd_T72 l0 x8_3).f0) : Int).toNat, none⟩ (.int .i64 (wrap64 (x7_2 + 1))))) ?hg ?ho ?hn ?hr ?_; (case ho => rfl); (case hg => rfl); (case hn => rfl); (case hr => exact (qK23)); intro w35 hw; have hg : w33.grownBy w35 (some go26) := (by rw [hw]; exact HP34.2); have hp_ : Kd.R (Kd.int .i64) 3 w35 w.heap.size (fun _ => True) (.slice (some ⟨go26, 0, none⟩) x5_3.length co26) y597 := (by rw [hw, Ny597.1]; exact HP34.1); clear HP34; have n0_ := za hp_; have n1_ := za (by exact (by rw [hw]; exact ya (HB.1) GB26.1 : Below w.heap.size w w35)); clear HO_5 HB; have HO_5 := n0_; have HB := n1_; clear n0_ n1_; clear hg hw hp_))
                    go_roundg kj14
                    case measure => have := HK1.1; have := HK2.1; have := HK3.1; have := HJ14.1; omega
                    case rel => exact ⟨(y597), (wrap64 (x8_3 + 1)), (qK10), H', ⟨by have := HK1.1; have := HK2.1; have := HK3.1; have := HJ14.1; omega⟩, ⟨(qK1 HO_5.1)⟩, ⟨(qK0)⟩⟩
                   ·rw [yc c30] at H; have c30b0 : decide ((rd y594 ((rd_T72 l0 x8_3).f0)) < 0) = false := zv c30; clear c30; have H' := za H; clear H; have p26 : 0 ≤ (((rd_T72 l0 x8_3).f1) : Int) := zb (qK7); have q26 : (((rd_T72 l0 x8_3).f1) : Int) < ((x5_3.length : Int) : Int) := zb (qK7); obtain ⟨go26, co26, eo26, gb26, gl26, cl26, HG26⟩ := Kd.R_form HO_5.1 (by omega)
                    (first | cases eo26 | (injection eo26 with ea_ en_ ec_; (first | subst ea_ | (injection ea_ with ea_; subst ea_)); subst ec_; clear en_))
                    have GB26 := za gb26; have GG26 := za HG26; clear gb26 gl26 HG26; obtain ⟨hx26_0, hf26_0⟩ := Kd.R_celln 0 HO_5.1 (((rd_T72 l0 x8_3).f1) : Int) p26 q26; replace p26 := zw p26; replace q26 := zw q26; have HP36 := Kd.R_putg HO_5.1 (((rd_T72 l0 x8_3).f1) : Int) (wrap64 (x7_2 + 1))
                    go_wp2_with (first | ((with_reducible refine gate_store (t := 3) (p := 62) rfl ?_); (try (rw [drewN_self wc]; generalize hq_ : World.drewN wc _ = wc; replace HO_5 := za (Kd.R_at hq_ HO_5.1); replace HB := za (below_at hq_ HB.1); clear hq_; (try (have HP36 := Kd.R_putg HO_5.1 (((rd_T72 l0 x8_3).f1) : Int) (wrap64 (x7_2 + 1)))))); refine store_event (t := 3) (p := 62) (v := ?vo_w37) (w1 := (wc.setCell ⟨go26, (((rd_T72 l0 x8_3).f1) : Int).toNat, none⟩ (.int .i64 (wrap64 (x7_2 + 1))))) ?hg ?ho ?hn ?hr ?_; (case ho => rfl); (case hg => rfl); (case hn => rfl); (case hr => exact (qK23)); intro w37 hw; have hg : wc.grownBy w37 (some go26) := (by rw [hw]; exact HP36.2); have hp_ : Kd.R (Kd.int .i64) 3 w37 w.heap.size (fun _ => True) (.slice (some ⟨go26, 0, none⟩) x5_3.length co26) y594 := (by rw [hw, Ny594.1]; exact HP36.1); clear HP36; have n0_ := za hp_; have n1_ := za (by exact (by rw [hw]; exact ya (HB.1) GB26.1 : Below w.heap.size w w37)); clear HO_5 HB; have HO_5 := n0_; have HB := n1_; clear n0_ n1_; clear hg hw hp_; have p595 : 0 ≤ (((rd_T72 l0 x8_3).f1) : Int) := zb (qK7); have q595 : ((rd_T72 l0 x8_3).f1) < (y594.length : Int) := (by have h_ : (((rd_T72 l0 x8_3).f1) : Int) < ((x5_3.length : Int) : Int) := zb (qK7); first | (have e_ := (zH HO_5.1).1; omega) | simpa only [Ny594.1, List.length_set] using h_); have ql595 : ((((rd_T72 l0 x8_3).f1) : Int) < ((x5_3.length : Int) : Int)) = True := zw (zb (qK7)); obtain ⟨ad595, e595, hx595_0⟩ := zJ (zH HO_5.1).2.2 ((rd_T72 l0 x8_3).f1) p595 q595; obtain rfl : (⟨go26, 0, none⟩ : Addr) = ad595 := (by injection e595); (first | simp only [add_plain] at hx595_0 | simp only [add_at] at hx595_0 | simp only [Addr.add, Nat.zero_add] at hx595_0 | skip); replace p595 := zw p595; replace q595 := zw q595; have p596 : 0 ≤ (((rd_T72 l0 x8_3).f0) : Int) := zb (qK7); have q596 : ((rd_T72 l0 x8_3).f0) < (y594.length : Int) := (by have h_ : (((rd_T72 l0 x8_3).f0) : Int) < ((x5_3.length : Int) : Int) := zb (qK7); first | (have e_ := (zH HO_5.1).1; omega) | simpa only [Ny594.1, List.length_set] using h_); have ql596 : ((((rd_T72 l0 x8_3).f0) : Int) < ((x5_3.length : Int) : Int)) = True := zw (zb (qK7)); obtain ⟨ad596, e596, hx596_0⟩ := zJ (zH HO_5.1).2.2 ((rd_T72 l0 x8_3).f0) p596 q596; obtain rfl : (⟨go26, 0, none⟩ : Addr) = ad596 := (by injection e596); (first | simp only [add_plain] at hx596_0 | simp only [add_at] at hx596_0 | simp only [Addr.add, Nat.zero_add] at hx596_0 | skip); replace p596 := zw p596; replace q596 := zw q596))
                    go_roundg kj14
                    case measure => have := HK1.1; have := HK2.1; have := HK3.1; have := HJ14.1; omega
                    case rel => exact ⟨(y594), (wrap64 (x8_3 + 1)), (qK10), H', ⟨by have := HK1.1; have := HK2.1; have := HK3.1; have := HJ14.1; omega⟩, ⟨(qK1 HO_5.1)⟩, ⟨(qK0)⟩⟩
                  ·rw [yc c29] at H
                   exact absurd H (by simp)
                 ·rw [yc c28] at H
                  exact absurd H (by simp)
                ·rw [yc c27] at H; have c27b0 : ((rd y594 ((rd_T72 l0 x8_3).f1)) == x7_2) = false := zx c27; have c27b1 : ((rd y594 ((rd_T72 l0 x8_3).f1)) != x7_2) = true := zU c27; have H' := za H; clear H; have p26 : 0 ≤ (((rd_T72 l0 x8_3).f1) : Int) := zb (qK7); have q26 : (((rd_T72 l0 x8_3).f1) : Int) < ((x5_3.length : Int) : Int) := zb (qK7); obtain ⟨go26, co26, eo26, gb26, gl26, cl26, HG26⟩ := Kd.R_form HO_5.1 (by omega)
                 (first | cases eo26 | (injection eo26 with ea_ en_ ec_; (first | subst ea_ | (injection ea_ with ea_; subst ea_)); subst ec_; clear en_))
                 have GB26 := za gb26; have GG26 := za HG26; clear gb26 gl26 HG26; obtain ⟨hx26_0, hf26_0⟩ := Kd.R_celln 0 HO_5.1 (((rd_T72 l0 x8_3).f1) : Int) p26 q26; replace p26 := zw p26; replace q26 := zw q26; have HP38 := Kd.R_putg HO_5.1 (((rd_T72 l0 x8_3).f1) : Int) (wrap64 (x7_2 + 1))
                 go_wp2_with (first | ((with_reducible refine gate_store (t := 3) (p := 62) rfl ?_); (try (rw [drewN_self wc]; generalize hq_ : World.drewN wc _ = wc; replace HO_5 := za (Kd.R_at hq_ HO_5.1); replace HB := za (below_at hq_ HB.1); clear hq_; (try (have HP38 := Kd.R_putg HO_5.1 (((rd_T72 l0 x8_3).f1) : Int) (wrap64 (x7_2 + 1)))))); refine store_event (t := 3) (p := 62) (v := ?vo_w39) (w1 := (wc.setCell ⟨go26, (((rd_T72 l0 x8_3).f1) : Int).toNat, none⟩ (.int .i64 (wrap64 (x7_2 + 1))))) ?hg ?ho ?hn ?hr ?_; (case ho => rfl); (case hg => rfl); (case hn => rfl); (case hr => exact (qK23)); intro w39 hw; have hg : wc.grownBy w39 (some go26) := (by rw [hw]; exact HP38.2); have hp_ : Kd.R (Kd.int .i64) 3 w39 w.heap.size (fun _ => True) (.slice (some ⟨go26, 0, none⟩) x5_3.length co26) y594 := (by rw [hw, Ny594.1]; exact HP38.1); clear HP38; have n0_ := za hp_; have n1_ := za (by exact (by rw [hw]; exact ya (HB.1) GB26.1 : Below w.heap.size w w39)); clear HO_5 HB; have HO_5 := n0_; have HB := n1_; clear n0_ n1_; clear hg hw hp_; have p595 : 0 ≤ (((rd_T72 l0 x8_3).f1) : Int) := zb (qK7); have q595 : ((rd_T72 l0 x8_3).f1) < (y594.length : Int) := (by have h_ : (((rd_T72 l0 x8_3).f1) : Int) < ((x5_3.length : Int) : Int) := zb (qK7); first | (have e_ := (zH HO_5.1).1; omega) | simpa only [Ny594.1, List.length_set] using h_); have ql595 : ((((rd_T72 l0 x8_3).f1) : Int) < ((x5_3.length : Int) : Int)) = True := zw (zb (qK7)); obtain ⟨ad595, e595, hx595_0⟩ := zJ (zH HO_5.1).2.2 ((rd_T72 l0 x8_3).f1) p595 q595; obtain rfl : (⟨go26, 0, none⟩ : Addr) = ad595 := (by injection e595); (first | simp only [add_plain] at hx595_0 | simp only [add_at] at hx595_0 | simp only [Addr.add, Nat.zero_add] at hx595_0 | skip); replace p595 := zw p595; replace q595 := zw q595))
                 go_roundg kj14
                 case measure => have := HK1.1; have := HK2.1; have := HK3.1; have := HJ14.1; omega
                 case rel => exact ⟨(y594), (wrap64 (x8_3 + 1)), (qK10), H', ⟨by have := HK1.1; have := HK2.1; have := HK3.1; have := HJ14.1; omega⟩, ⟨(qK1 HO_5.1)⟩, ⟨(qK0)⟩⟩
               ·rw [yc c25] at H
                exact absurd H (by simp)
              ·rw [yc c24] at H
               exact absurd H (by simp)
             ·replace c23 := zn c23; subst c23; rw [yc (show ¬ (false = true) by decide)] at H
              by_cases c40 : 0 ≤ ((rd_T72 l0 x8_3).f1)
              ·rw [yb c40] at H; have c40b0 : decide (0 ≤ ((rd_T72 l0 x8_3).f1)) = true := zc c40; clear c40
               by_cases c41 : ((rd_T72 l0 x8_3).f1) < (x5_3.length : Int)
               ·rw [yb c41] at H; have c41b0 : decide (((rd_T72 l0 x8_3).f1) < (x5_3.length : Int)) = true := zc c41; clear c41
                by_cases c42 : (rd x5_3 ((rd_T72 l0 x8_3).f1)) = x7_2
                ·rw [yb c42] at H; have c42b0 : ((rd x5_3 ((rd_T72 l0 x8_3).f1)) == x7_2) = true := zT c42; have c42b1 : ((rd x5_3 ((rd_T72 l0 x8_3).f1)) != x7_2) = false := zy c42; clear c42
                 by_cases c43 : 0 ≤ ((rd_T72 l0 x8_3).f0)
                 ·rw [yb c43] at H; have c43b0 : decide (0 ≤ ((rd_T72 l0 x8_3).f0)) = true := zc c43; clear c43
                  by_cases c44 : ((rd_T72 l0 x8_3).f0) < (x5_3.length : Int)
                  ·rw [yb c44] at H; have c44b0 : decide (((rd_T72 l0 x8_3).f0) < (x5_3.length : Int)) = true := zc c44; clear c44
                   by_cases c45 : (rd x5_3 ((rd_T72 l0 x8_3).f0)) < 0
                   ·rw [yb c45] at H; have c45b0 : decide ((rd x5_3 ((rd_T72 l0 x8_3).f0)) < 0) = true := zc c45; clear c45; obtain ⟨y600, hy600⟩ : ∃ y_ : List Int, y_ = (x5_3.set (((rd_T72 l0 x8_3).f0) : Int).toNat (wrap64 (x7_2 + 1))) := ⟨_, rfl⟩; replace H : (spec_l17Steps.l2 kj14 l0 y600 x7_2 (wrap64 (x8_3 + 1))) = some r := (qK4 hy600); have Ny600 := za hy600; clear hy600; have H' := za H; clear H; obtain ⟨Ao47, co47, eo47⟩ := zI HO_5.1; subst eo47; have p598 : 0 ≤ (((rd_T72 l0 x8_3).f1) : Int) := zb (qK7); have q598 : ((rd_T72 l0 x8_3).f1) < (x5_3.length : Int) := zb (qK7); obtain ⟨ad598, e598, hx598_0⟩ := zJ (zH HO_5.1).2.2 ((rd_T72 l0 x8_3).f1) p598 q598; cases e598; replace p598 := zw p598; replace q598 := zw q598; have p599 : 0 ≤ (((rd_T72 l0 x8_3).f0) : Int) := zb (qK7); have q599 : ((rd_T72 l0 x8_3).f0) < (x5_3.length : Int) := zb (qK7); obtain ⟨ad599, e599, hx599_0⟩ := zJ (zH HO_5.1).2.2 ((rd_T72 l0 x8_3).f0) p599 q599; obtain rfl : ad598 = ad599 := (by injection e599); replace p599 := zw p599; replace q599 := zw q599; have p46 : 0 ≤ (((rd_T72 l0 x8_3).f0) : Int) := zb (qK7); have q46 : (((rd_T72 l0 x8_3).f0) : Int) < ((x5_3.length : Int) : Int) := zb (qK7); obtain ⟨go46, co46, eo46, gb46, gl46, cl46, HG46⟩ := Kd.R_form HO_5.1 (by omega)
                    (first | cases eo46 | (injection eo46 with ea_ en_ ec_; (first | subst ea_ | (injection ea_ with ea_; subst ea_)); subst ec_; clear en_))
                    have GB46 := za gb46; have GG46 := za HG46; clear gb46 gl46 HG46
                    (first | simp only [add_plain] at hx598_0 | skip)
                    (first | simp only [add_plain] at hx599_0 | skip)
                    obtain ⟨hx46_0, hf46_0⟩ := Kd.R_celln 0 HO_5.1 (((rd_T72 l0 x8_3).f0) : Int) p46 q46; replace p46 := zw p46; replace q46 := zw q46; have HP48 := Kd.R_putg HO_5.1 (((rd_T72 l0 x8_3).f0) : Int) (wrap64 (x7_2 + 1))
                    go_wp2_with (first | ((with_reducible refine gate_store (t := 3) (p := 80) rfl ?_); (try (rw [drewN_self wc]; generalize hq_ : World.drewN wc _ = wc; replace HO_5 := za (Kd.R_at hq_ HO_5.1); replace HB := za (below_at hq_ HB.1); clear hq_; (try (have HP48 := Kd.R_putg HO_5.1 (((rd_T72 l0 x8_3).f0) : Int) (wrap64 (x7_2 + 1)))))); refine store_event (t := 3) (p := 80) (v := ?vo_w49) (w1 := (wc.setCell ⟨go46, (((rd_T72 l0 x8_3).f0) : Int).toNat, none⟩ (.int .i64 (wrap64 (x7_2 + 1))))) ?hg ?ho ?hn ?hr ?_; (case ho => rfl); (case hg => rfl); (case hn => rfl); (case hr => exact (qK23)); intro w49 hw; have hg : wc.grownBy w49 (some go46) := (by rw [hw]; exact HP48.2); have hp_ : Kd.R (Kd.int .i64) 3 w49 w.heap.size (fun _ => True) (.slice (some ⟨go46, 0, none⟩) x5_3.length co47) y600 := (by rw [hw, Ny600.1]; exact HP48.1); clear HP48; have n0_ := za hp_; have n1_ := za (by exact (by rw [hw]; exact ya (HB.1) GB46.1 : Below w.heap.size w w49)); clear HO_5 HB; have HO_5 := n0_; have HB := n1_; clear n0_ n1_; clear hg hw hp_))
                    go_roundg kj14
                    case measure => have := HK1.1; have := HK2.1; have := HK3.1; have := HJ14.1; omega
                    case rel => exact ⟨(y600), (wrap64 (x8_3 + 1)), (qK10), H', ⟨by have := HK1.1; have := HK2.1; have := HK3.1; have := HJ14.1; omega⟩, ⟨(qK1 HO_5.1)⟩, ⟨(qK0)⟩⟩
                   ·rw [yc c45] at H; have c45b0 : decide ((rd x5_3 ((rd_T72 l0 x8_3).f0)) < 0) = false := zv c45; clear c45; have H' := za H; clear H; obtain ⟨Ao50, co50, eo50⟩ := zI HO_5.1; subst eo50; have p598 : 0 ≤ (((rd_T72 l0 x8_3).f1) : Int) := zb (qK7); have q598 : ((rd_T72 l0 x8_3).f1) < (x5_3.length : Int) := zb (qK7); obtain ⟨ad598, e598, hx598_0⟩ := zJ (zH HO_5.1).2.2 ((rd_T72 l0 x8_3).f1) p598 q598; cases e598; replace p598 := zw p598; replace q598 := zw q598; have p599 : 0 ≤ (((rd_T72 l0 x8_3).f0) : Int) := zb (qK7); have q599 : ((rd_T72 l0 x8_3).f0) < (x5_3.length : Int) := zb (qK7); obtain ⟨ad599, e599, hx599_0⟩ := zJ (zH HO_5.1).2.2 ((rd_T72 l0 x8_3).f0) p599 q599; obtain rfl : ad598 = ad599 := (by injection e599); replace p599 := zw p599; replace q599 := zw q599
                    go_wp2
                    repeat (go_quiet (fail); try go_wp2)
                    go_roundg kj14
                    case measure => have := HK1.1; have := HK2.1; have := HK3.1; have := HJ14.1; omega
                    case rel => exact ⟨(x5_3), (wrap64 (x8_3 + 1)), (qK10), H', ⟨by have := HK1.1; have := HK2.1; have := HK3.1; have := HJ14.1; omega⟩, ⟨(qK1 HO_5.1)⟩, ⟨(qK0)⟩⟩
                  ·rw [yc c44] at H
                   exact absurd H (by simp)
                 ·rw [yc c43] at H
                  exact absurd H (by simp)
                ·rw [yc c42] at H; have c42b0 : ((rd x5_3 ((rd_T72 l0 x8_3).f1)) == x7_2) = false := zx c42; have c42b1 : ((rd x5_3 ((rd_T72 l0 x8_3).f1)) != x7_2) = true := zU c42; have H' := za H; clear H; obtain ⟨Ao51, co51, eo51⟩ := zI HO_5.1; subst eo51; have p598 : 0 ≤ (((rd_T72 l0 x8_3).f1) : Int) := zb (qK7); have q598 : ((rd_T72 l0 x8_3).f1) < (x5_3.length : Int) := zb (qK7); obtain ⟨ad598, e598, hx598_0⟩ := zJ (zH HO_5.1).2.2 ((rd_T72 l0 x8_3).f1) p598 q598; cases e598; replace p598 := zw p598; replace q598 := zw q598
                 go_wp2
                 repeat (go_quiet (fail); try go_wp2)
                 go_roundg kj14
                 case measure => have := HK1.1; have := HK2.1; have := HK3.1; have := HJ14.1; omega
                 case rel => exact ⟨(x5_3), (wrap64 (x8_3 + 1)), (qK10), H', ⟨by have := HK1.1; have := HK2.1; have := HK3.1; have := HJ14.1; omega⟩, ⟨(qK1 HO_5.1)⟩, ⟨(qK0)⟩⟩
               ·rw [yc c41] at H
                exact absurd H (by simp)
              ·rw [yc c40] at H
               exact absurd H (by simp)
          ·rw [yc c14] at H
           exact absurd H (by simp)
         ·rw [yc c13] at H; have c13b0 : decide (x8_3 < (l0.length : Int)) = false := zv c13; clear c13; have H' := za H; clear H
          go_wp2
          repeat (go_quiet (fail); try go_wp2)
          go_roundg k3
          case measure => have := HK1.1; have := HK2.1; have := HK3.1; omega
          case rel => exact ⟨(x5_3), (wrap64 (x7_2 + 1)), (qK10), H', ⟨by have := HK1.1; have := HK2.1; have := HK3.1; omega⟩, ⟨(qK1 HO_5.1)⟩, ⟨(qK0)⟩⟩
      ·rw [yc c12] at H; have c12b0 : decide (x7_2 < 8) = false := zv c12; clear c12; obtain rfl := zm H
       go_wp2
       repeat (go_quiet (fail); try go_wp2)
       go_ret
       exact ⟨_, (qK11), (qK1 HO_5.1), (qK0)⟩

def spec_StepsFrom.f (k : Nat) (l0 : List (S72)) (l1 : List Int) : Option (List Int × Bool) := (spec_l17Asked.f k l0 l1).bind fun t601 => (if t601 = true then ((spec_l17Steps.f k l0 l1).bind fun t602 => (some (t602, true))) else (some ((([] : List Int)), false)))
theorem spec_StepsFrom.calls (k : Nat) (A0 : Option Addr) (c0 : Nat) (l0 : List (S72)) (A1 : Option Addr) (c1 : Nat) (l1 : List Int) (r1 : List Int) (r2 : Bool) (w : World) (hr0 : Kd.C k72 w A0 l0.length l0) (hc0 : l0.length ≤ c0) (hr1 : Kd.C (Kd.int .i64) w A1 l1.length l1) (hc1 : l1.length ≤ c1) (h : spec_StepsFrom.f k l0 l1 = some (r1, r2)) :
  Calls Try.prog 18 #[.slice A0 l0.length c0, .slice A1 l1.length c1] w fun e w' => ∃ v0_ : Value, e = .returned (.tuple #[v0_, .bool r2]) ∧ Kd.R (Kd.int .i64) 3 w' w.heap.size (fun _ => True) v0_ r1 ∧ Below w.heap.size w w' := by
 have HR0 := za hr0; have HC0 := za hc0; clear hr0 hc0; have HR1 := za hr1; have HC1 := za hc1; clear hr1 hc1; have HB := za (zs w.heap.size w); have H : ((spec_l17Asked.f k l0 l1).bind fun t601 => (if t601 = true then ((spec_l17Steps.f k l0 l1).bind fun t602 => (some (t602, true))) else (some ((([] : List Int)), false)))) = some (r1, r2) := h; clear h; replace H := bindA H; obtain ⟨t601, A3, H⟩ := H; (try dsimp only at H)
 by_cases c4 : t601 = true
 ·subst c4; rw [yb rfl] at H; replace H := zC H; obtain ⟨t602, A50, H⟩ := H; replace H : (some (t602, true)) = some (r1, r2) := H; have A5 := za A50; clear A50; simp only [yd, ye] at H; obtain ⟨rfl, rfl⟩ := H
  go_enter Try.func18, Try.ntmps18
  go_wp2_with (first | ((with_reducible refine zp (f := 36) rfl ?_); refine zV (some 8) rfl rfl Try.func36 (qK25) rfl #[.slice A0 l0.length c0, .slice A1 l1.length c1] rfl (qK2) ?_; (with_reducible refine (spec_l17Asked.calls k _ _ l0 _ _ l1 true _ ?s1 ?s2 ?s3 ?s4 A3.1).mono ?_); (case s1 => exact (qK21 HR0.1)); (case s2 => exact HC0.1); (case s3 => exact (qK21 HR1.1)); (case s4 => exact HC1.1); rintro e w6 ⟨rfl, hb⟩; refine ⟨_, rfl, ?_⟩; replace HB := za qK73; clear hb) | ((with_reducible refine zp (f := 42) rfl ?_); refine zV (some 13) rfl rfl Try.func42 (qK25) rfl #[.slice A0 l0.length c0, .slice A1 l1.length c1] rfl (qK2) ?_; (with_reducible refine (spec_l17Steps.calls k _ _ l0 _ _ l1 t602 _ ?s1 ?s2 ?s3 ?s4 A5.1).mono ?_); (case s1 => exact (qK9 HR0.1)); (case s2 => exact HC0.1); (case s3 => exact (qK9 HR1.1)); (case s4 => exact HC1.1); rintro e w7 ⟨v603, rfl, ho0, hb⟩; refine ⟨_, rfl, ?_⟩; have HO604 := za (qK80 ho0); replace HB := za qK73; clear hb ho0))
  go_ret2
  exact ⟨_, (qK11), (qK1 HO604.1), (qK0)⟩
 ·replace c4 := zn c4; subst c4; rw [yc (show ¬ (false = true) by decide)] at H; obtain ⟨y605, hy605⟩ : ∃ y_ : List Int, y_ = (([] : List Int)) := ⟨_, rfl⟩; replace H : (some (y605, false)) = some (r1, r2) := (qK4 hy605); have Ny605 := za hy605; clear hy605; simp only [yd, ye] at H; obtain ⟨rfl, rfl⟩ := H
  go_enter Try.func18, Try.ntmps18
  go_wp2_with (first | ((with_reducible refine zp (f := 36) rfl ?_); refine zV (some 8) rfl rfl Try.func36 (qK25) rfl #[.slice A0 l0.length c0, .slice A1 l1.length c1] rfl (qK2) ?_; (with_reducible refine (spec_l17Asked.calls k _ _ l0 _ _ l1 false _ ?s1 ?s2 ?s3 ?s4 A3.1).mono ?_); (case s1 => exact (qK21 HR0.1)); (case s2 => exact HC0.1); (case s3 => exact (qK21 HR1.1)); (case s4 => exact HC1.1); rintro e w8 ⟨rfl, hb⟩; refine ⟨_, rfl, ?_⟩; replace HB := za qK73; clear hb) | ((with_reducible refine zq (N := 10) rfl ?_); refine zQ (Kd.int .i64) _ 3 ?hg (N := 10) ?hd (xs := ([] : List Int)) (inner := []) (ok := fun _ => True) (okp := fun _ => True) ?hr ?hp (fun _ hk => hk) trivial (zs _ _) (zo _) (by simp) ?_; (case hd | hg => rfl); (case hr => exact (qK23)); (case hp => exact (zu _ _)); intro v606 w9 ho10 hb hg_ hnew_; clear hg_ hnew_; (first | rw [← Ny605.1] at ho10 | (simp only [Int.reduceToNat] at ho10; rw [← Ny605.1] at ho10)); have HO607 := za (qK80 ho10); replace HB := za qK73; clear hb ho10))
  go_ret2
  exact ⟨_, (qK11), (qK1 HO607.1), (qK0)⟩

def spec_l1Cur_stationOf.f (s0_0 : List Int) (s0_1 : Int) (s0_2 : Int) : Option (Int × Int × Int) := (spec_l1Cur_among.f s0_0 s0_1 s0_2 (([0, 0, 1, 1, 2, 2, 3, 4, 5, 7, 8, (-1)] : List Int))).bind fun bt611 => (some (bt611.1, bt611.2.1, bt611.2.2))
set_option maxHeartbeats 8000000 in
set_option maxRecDepth 100000 in
theorem spec_l1Cur_stationOf.calls (g : Nat) (s0_0 : List Int) (s0_1 : Int) (s0_2 : Int) (r1 : Int) (r2 : Int) (r3 : Int) (w0 w : World) (hI : IsS54 w0 w g s0_0 s0_1 s0_2) (hB : Below w0.heap.size w0 w) (h : spec_l1Cur_stationOf.f s0_0 s0_1 s0_2 = some (r1, r2, r3)) :
  Calls Try.prog 43 #[.pointer (some ⟨g, 0, none⟩)] w fun e w' => e = .returned (.int .i64 r1) ∧ IsS54 w0 w' g s0_0 r2 r3 ∧ Below w0.heap.size w0 w' ∧ KeepBut w w' g none := by
 have HI0 := za hI; have HK := za (KeepBut.refl w g none); have HL := za hB.size; clear hI; have HW0 := za hB.size; have HB := za hB; clear hB; have H : ((spec_l1Cur_among.f s0_0 s0_1 s0_2 (([0, 0, 1, 1, 2, 2, 3, 4, 5, 7, 8, (-1)] : List Int))).bind fun bt611 => (some (bt611.1, bt611.2.1, bt611.2.2))) = some (r1, r2, r3) := h; clear h; obtain ⟨y608, hy608⟩ : ∃ y_ : List Int, y_ = (([0, 0, 1, 1, 2, 2, 3, 4, 5, 7, 8, (-1)] : List Int)) := ⟨_, rfl⟩; replace H : ((spec_l1Cur_among.f s0_0 s0_1 s0_2 y608).bind fun bt611 => (some (bt611.1, bt611.2.1, bt611.2.2))) = some (r1, r2, r3) := (qK4 hy608); have Ny608 := za hy608; clear hy608; replace H := zC H; obtain ⟨⟨t611, t612, t613⟩, A20, H⟩ := H; replace H : (some (t611, t612, t613)) = some (r1, r2, r3) := H; have A2 := za A20; clear A20; simp only [yd, ye] at H; obtain ⟨rfl, rfl, rfl⟩ := H
 go_enter Try.func43, Try.ntmps43
 go_wp2_with (first | ((with_reducible refine zq (N := 4) rfl ?_); refine zQ (Kd.int .i64) _ 3 ?hg (N := 4) ?hd (xs := ([0, 0, 1, 1, 2, 2, 3, 4, 5, 7, 8, (-1)] : List Int)) (inner := [.int .i64 0, .int .i64 0, .int .i64 1, .int .i64 1, .int .i64 2, .int .i64 2, .int .i64 3, .int .i64 4, .int .i64 5, .int .i64 7, .int .i64 8, .int .i64 (-1)]) (ok := fun _ => True) (okp := fun _ => True) ?hr ?hp (fun _ hk => hk) trivial (zs _ _) (zo _) (by simp) ?_; (case hd | hg => rfl); (case hr => exact (qK23)); (case hp => exact (by exact (zt (show Kd.M (Kd.int .i64) _ _ _ 0 [.int .i64 0] from rfl) (zt (show Kd.M (Kd.int .i64) _ _ _ 0 [.int .i64 0] from rfl) (zt (show Kd.M (Kd.int .i64) _ _ _ 1 [.int .i64 1] from rfl) (zt (show Kd.M (Kd.int .i64) _ _ _ 1 [.int .i64 1] from rfl) (zt (show Kd.M (Kd.int .i64) _ _ _ 2 [.int .i64 2] from rfl) (zt (show Kd.M (Kd.int .i64) _ _ _ 2 [.int .i64 2] from rfl) (zt (show Kd.M (Kd.int .i64) _ _ _ 3 [.int .i64 3] from rfl) (zt (show Kd.M (Kd.int .i64) _ _ _ 4 [.int .i64 4] from rfl) (zt (show Kd.M (Kd.int .i64) _ _ _ 5 [.int .i64 5] from rfl) (zt (show Kd.M (Kd.int .i64) _ _ _ 7 [.int .i64 7] from rfl) (zt (show Kd.M (Kd.int .i64) _ _ _ 8 [.int .i64 8] from rfl) (zt (show Kd.M (Kd.int .i64) _ _ _ (-1) [.int .i64 (-1)] from rfl) (zu _ _))))))))))))))); intro v609 w3 ho4 hb hg_ hnew_; clear hg_ hnew_; (first | rw [← Ny608.1] at ho4 | (simp only [Int.reduceToNat] at ho4; rw [← Ny608.1] at ho4)); have HO610 := za (qK90 ho4); replace HK := za qK79; replace HB := za (zW (qK6) hb); replace HI0 := za qK93; clear hb ho4; obtain ⟨Ao5, co5, eo5⟩ := zI HO610.1; subst eo5) | ((with_reducible refine zp (f := 57) rfl ?_); refine zV (some 5) rfl rfl Try.func57 (qK25) rfl #[.pointer (some ⟨g, 0, none⟩), .slice Ao5 y608.length co5] rfl (qK2) ?_; (with_reducible refine (spec_l1Cur_among.calls g s0_0 s0_1 s0_2 _ _ y608 t611 t612 t613 w0 _ ?s1 ?s2 ?s3 ?s4 ?s5 A2.1).mono ?_); (case s1 => exact (qK3)); (case s2 => exact (qK6)); (case s3 => exact (qK13 HO610.1)); (case s4 => exact (qK35 HO610.1)); (case s5 => exact (qK48 HO610.1)); rintro e w6 ⟨rfl, hi, hb, hk⟩; refine ⟨_, rfl, ?_⟩; replace HO610 := za (qK72 HO610.1); replace HK := za qK77; replace HB := za hb; replace HI0 := za hi; clear hb hk hi))
 go_ret
 exact ⟨(qK11), (qK3), (qK6), (qK5)⟩

def spec_DrawWouldConnect.f (k : Nat) (l0 : List Int) : Option ((List (S72)) × Int × Int) := (spec_l1Cur_caves.f k l0 0 0).bind fun bt615 => ((spec_l1Cur_stationOf.f l0 bt615.2.1 bt615.2.2).bind fun bt620 => ((spec_l1Cur_stationOf.f l0 bt620.2.1 bt620.2.2).bind fun bt623 => (some (bt615.1, bt620.1, bt623.1))))
set_option maxHeartbeats 8000000 in
set_option maxRecDepth 100000 in
theorem spec_DrawWouldConnect.calls (k : Nat) (A0 : Option Addr) (c0 : Nat) (l0 : List Int) (r1 : List (S72)) (r2 : Int) (r3 : Int) (w : World) (hr0 : Kd.C (Kd.int .u8) w A0 l0.length l0) (hc0 : l0.length ≤ c0) (h : spec_DrawWouldConnect.f k l0 = some (r1, r2, r3)) :
  Calls Try.prog 19 #[.slice A0 l0.length c0] w fun e w' => ∃ v0_ : Value, e = .returned (.tuple #[v0_, .int .i64 r2, .int .i64 r3]) ∧ Kd.R k72 72 w' w.heap.size (fun _ => True) v0_ r1 ∧ Below w.heap.size w w' := by
 have hu54 := Try.underlying54; have HR0 := za hr0; have HC0 := za hc0; clear hr0 hc0; have HB := za (zs w.heap.size w); have H : ((spec_l1Cur_caves.f k l0 0 0).bind fun bt615 => ((spec_l1Cur_stationOf.f l0 bt615.2.1 bt615.2.2).bind fun bt620 => ((spec_l1Cur_stationOf.f l0 bt620.2.1 bt620.2.2).bind fun bt623 => (some (bt615.1, bt620.1, bt623.1))))) = some (r1, r2, r3) := h; clear h; replace H := bindA H; obtain ⟨⟨t615, t618, t619⟩, A2, H⟩ := H; (try dsimp only at H); replace H := bindA H; obtain ⟨⟨t620, t621, t622⟩, A3, H⟩ := H; (try dsimp only at H); replace H := zC H; obtain ⟨⟨t623, t624, t625⟩, A40, H⟩ := H; replace H : (some (t615, t620, t623)) = some (r1, r2, r3) := H; have A4 := za A40; clear A40; simp only [yd, ye] at H; obtain ⟨rfl, rfl, rfl⟩ := H
 go_enter Try.func19, Try.ntmps19
 go_wp2_with (first | ((with_reducible refine zq (N := 8) rfl ?_); refine zB ?hg (N := 8) ?hd (cs := #[.slice A0 l0.length c0, .int .i64 0, .int .u64 0]) (t := 54) ?hr ?_; (case hd | hg => rfl); (case hr => exact (qK23)); intro gb614 hg w5 hbox hb; have GW614 := za (by exact (by rw [hg]; exact (zX (qK0)) : w.heap.size ≤ gb614)); have GE614 := za (by exact (by rw [hg]; exact (zX (qK0)) : w.heap.size ≤ gb614)); have HI614 := za (by exact (show IsS54 w w5 gb614 l0 0 0 from ⟨_, _, hbox, (qK114), HR0.1⟩)); replace HB := za qK73; clear hb hbox hg) | ((with_reducible refine zp (f := 24) rfl ?_); refine zV (some 10) rfl rfl Try.func24 (qK25) rfl #[.pointer (some ⟨gb614, 0, none⟩)] rfl (qK2) ?_; (with_reducible refine (spec_l1Cur_caves.calls k gb614 l0 0 0 t615 t618 t619 w _ ?s1 ?s2 A2.1).mono ?_); (case s1 => exact (qK39)); (case s2 => exact (qK37)); rintro e w6 ⟨v616, rfl, ho0, hi, hb, hk⟩; refine ⟨_, rfl, ?_⟩; have HO617 := za (zP ho0 (zX (qK37))); replace HB := za hb; replace HI614 := za hi; clear hb hk hi ho0) | ((with_reducible refine zp (f := 43) rfl ?_); refine zV (some 12) rfl rfl Try.func43 (qK25) rfl #[.pointer (some ⟨gb614, 0, none⟩)] rfl (qK2) ?_; (with_reducible refine (spec_l1Cur_stationOf.calls gb614 l0 t618 t619 t620 t621 t622 w _ ?s1 ?s2 A3.1).mono ?_); (case s1 => exact (qK39)); (case s2 => exact (qK37)); rintro e w7 ⟨rfl, hi, hb, hk⟩; refine ⟨_, rfl, ?_⟩; replace HO617 := za (by exact zK (zN (IsS54.apart (show IsS54 w _ gb614 l0 t618 t619 from (qK39)) (qK1 HO617.1) (by decide)) hk (fun _ h => h.2)) (fun _ h => h.1)); replace HB := za hb; replace HI614 := za hi; clear hb hk hi) | ((with_reducible refine zp (f := 43) rfl ?_); refine zV (some 14) rfl rfl Try.func43 (qK25) rfl #[.pointer (some ⟨gb614, 0, none⟩)] rfl (qK2) ?_; (with_reducible refine (spec_l1Cur_stationOf.calls gb614 l0 t621 t622 t623 t624 t625 w _ ?s1 ?s2 A4.1).mono ?_); (case s1 => exact (qK39)); (case s2 => exact (qK37)); rintro e w8 ⟨rfl, hi, hb, hk⟩; refine ⟨_, rfl, ?_⟩; replace HO617 := za (by exact zK (zN (IsS54.apart (show IsS54 w _ gb614 l0 t621 t622 from (qK39)) (qK1 HO617.1) (by decide)) hk (fun _ h => h.2)) (fun _ h => h.1)); replace HB := za hb; replace HI614 := za hi; clear hb hk hi))
 go_ret3
 exact ⟨_, (qK11), (qK1 HO617.1), (qK37)⟩

end Go.Proofs.Ytkocflfadlempaa.MK
