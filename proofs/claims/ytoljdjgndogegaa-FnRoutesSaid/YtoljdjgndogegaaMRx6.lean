-- Written by a program of this session (wip/drv.py, wip/tight2.py). -- tight2
import Derived.Test.YtoljdjgndogegaaMRx0
import Derived.Test.YtoljdjgndogegaaMRx2
import Derived.Test.YtoljdjgndogegaaMRx5
namespace Go.Proofs.Ytoljdjgndogegaa.MR
open Go.RowKit Go.Proofs.YtoljdjgndogegaaW.PrintWords Go.Proofs.YtoljdjgndogegaaW.PrintLast
set_option maxRecDepth 100000
attribute [local go_sem] max2_int min2_int max_two min_two   -- for this text's walks alone
set_option linter.unusedVariables false
set_option linter.unusedSimpArgs false

/-! ### impl_BestRoute: function 7 (by hand: wip/inj) -/
/-- The best route so far (none: empty), and its length. -/
abbrev RtSt := List Int × Int
def rtLast (route : List Int) : Int := rd route (wrap64 ((route.length : Int) - 1))
def rtLeaf (route : List Int) (len : Int) (st : RtSt) : RtSt := if st.1 = [] ∨ len < st.2 then (route, len) else st
def rtLoop (f : List Int → Int → RtSt → Option RtSt) (k : Nat) (l0 : List S58) (l1 : List Int) (wd la : Int) (route : List Int) (len : Int) : Nat → Nat → RtSt → Option RtSt
 | 0, _, st => some st
 | n + 1, s, st => (impl_between.f k l0 l1 la (s : Int)).bind fun q => if (s : Int) ∈ route ∨ q < 0 then rtLoop f k l0 l1 wd la route len n (s + 1) st else (if q < (l1.length : Int) ∧ q < (l0.length : Int) then (if rd l1 q < wd then rtLoop f k l0 l1 wd la route len n (s + 1) st else (f (route ++ [(s : Int)]) (wrap64 (len + (rd_T58 l0 q).f2)) st).bind fun st' => rtLoop f k l0 l1 wd la route len n (s + 1) st') else none)
def rtGo (k : Nat) (l0 : List S58) (l1 : List Int) (ta wd : Int) : Nat → List Int → Int → RtSt → Option RtSt
 | 0, _, _, _ => none
 | d + 1, route, len, st => if 0 < route.length ∧ route.length ≤ 1000 then (if rtLast route = ta then some (rtLeaf route len st) else rtLoop (rtGo k l0 l1 ta wd d) k l0 l1 wd (rtLast route) route len 8 0 st) else none
def impl_BestRoute.f (k : Nat) (l0 : List S58) (l1 : List Int) (a2 a3 a4 : Int) : Option (List Int × Bool) :=
 (impl_areEnds.f k l0 l1 a2 a3).bind fun t => if t = true then ((impl_within.f a4 0 200).bind fun u => if u = true then ((rtGo k l0 l1 a3 a4 9 [a2] 0 ([], 0)).bind fun st => some (st.1, decide (st.1 ≠ []))) else some ([], false)) else some ([], false)
theorem caves_any {l : List Int} {x : Int} : x ∈ l ↔ ∃ i, i < l.length ∧ l.getD i 0 = x := by
 constructor
 ·intro h; obtain ⟨i, hi, e⟩ := List.getElem_of_mem h
  exact ⟨i, hi, by simp [List.getD_eq_getElem?_getD, List.getElem?_eq_getElem hi, e]⟩
 ·rintro ⟨i, hi, e⟩
  rw [List.getD_eq_getElem?_getD, List.getElem?_eq_getElem hi] at e; simp only [Option.getD_some] at e
  exact e ▸ List.getElem_mem hi
theorem has_total (l : List Int) (x : Int) (hm : l.length ≤ 9223372036854775807) : ∀ k, l.length < k → impl_has.f k l x = some (decide (x ∈ l)) := by
 have key : ∀ d i k, i + d = l.length → d < k → (∀ j, j < i → l.getD j 0 ≠ x) → ∃ r, slices_Index_int_int.l0 k l x (l.length : Int) (i : Int) = some r ∧ (0 ≤ r ↔ x ∈ l) := by
  intro d
  induction d with
  | zero =>
   intro i k hi hk hno; obtain ⟨k, rfl⟩ : ∃ m, k = m + 1 := ⟨k - 1, by omega⟩
   refine ⟨-1, by simp only [slices_Index_int_int.l0]; rw [if_neg (by omega)], by omega, fun h => ?_⟩
   obtain ⟨j, hj, he⟩ := caves_any.1 h
   exact absurd he (hno j (by omega))
  | succ d ih =>
   intro i k hi hk hno; obtain ⟨k, rfl⟩ : ∃ m, k = m + 1 := ⟨k - 1, by omega⟩
   have hil : i < l.length := by omega
   have hr : rd l (i : Int) = l.getD i 0 := by simp [rd]
   have hw : wrap64 ((i : Int) + 1) = ((i + 1 : Nat) : Int) := by unfold wrap64; omega
   simp only [slices_Index_int_int.l0, hr]; rw [if_pos (by omega), if_pos (by omega), if_pos (by omega), hw]
   by_cases he : x = l.getD i 0
   ·exact ⟨i, by rw [if_pos he], fun _ => caves_any.2 ⟨i, hil, he.symm⟩, fun _ => by omega⟩
   ·rw [if_neg he]
    refine ih (i + 1) k (by omega) (by omega) (fun j hj => ?_)
    by_cases hji : j = i
    ·rw [hji]; exact fun h => he h.symm
    ·exact hno j (by omega)
 intro k hk
 obtain ⟨r, h1, h2⟩ := key l.length 0 k (by omega) hk (fun j hj => by omega)
 have h1' : slices_Index_int_int.l0 k l x (l.length : Int) 0 = some r := h1; simp only [impl_has.f, slices_Contains_int_int.f, slices_Index_int_int.f, h1', Option.bind_some]
 congr 1
 rw [decide_eq_decide]
 exact h2

def rtClo (gr gt gb gl gL gp gm gc : Nat) : Value := .func (.func 35) #[] #[.pointer (some ⟨gr, 0, none⟩), .pointer (some ⟨gt, 0, none⟩), .pointer (some ⟨gb, 0, none⟩), .pointer (some ⟨gl, 0, none⟩), .pointer (some ⟨gL, 0, none⟩), .pointer (some ⟨gp, 0, none⟩), .pointer (some ⟨gm, 0, none⟩), .pointer (some ⟨gc, 0, none⟩)]
structure RtS (w : World) (gr gt gb gl gL gp gm gc : Nat) (vL vP vr vb : Value) (ta wd : Int) (route best : List Int) (least : Int) (W : World) : Prop where
 b : Below w.heap.size w W
 hr : W.heap[gr]? = some (.cells #[vr] 25 (0, 0))
 ht : W.heap[gt]? = some (.cells #[.int .i64 ta] 3 (0, 0))
 hb : W.heap[gb]? = some (.cells #[vb] 25 (0, 0))
 hl : W.heap[gl]? = some (.cells #[.int .i64 least] 3 (0, 0))
 hL : W.heap[gL]? = some (.cells #[vL] 24 (0, 0))
 hp : W.heap[gp]? = some (.cells #[vP] 25 (0, 0))
 hm : W.heap[gm]? = some (.cells #[.int .i64 wd] 3 (0, 0))
 hc : W.heap[gc]? = some (.cells #[rtClo gr gt gb gl gL gp gm gc] 54 (0, 0))
 rr : Kd.R (Kd.int .i64) 3 W w.heap.size (fun k => (k ≠ gl ∧ k ≠ gt ∧ k ≠ gm) ∧ some k ≠ vb.ownBlock) vr route
 rb : Kd.R (Kd.int .i64) 3 W w.heap.size (fun k => (k ≠ gl ∧ k ≠ gt ∧ k ≠ gm) ∧ some k ≠ vr.ownBlock) vb best
 nb : (best = [] ∧ vb = .slice none 0 0) ∨ (best ≠ [] ∧ ∃ ad n c, vb = .slice (some ad) n c)
structure RtOrd (w : World) (gr gt gb gl gL gp gm gc : Nat) : Prop where
 ord : w.heap.size ≤ gL ∧ gL < gp ∧ gp < gt ∧ gt < gm ∧ gm < gb ∧ gb < gl ∧ gl < gr ∧ gr < gc
section
variable {w : World} {gr gt gb gl gL gp gm gc : Nat} {vL vP vr vb : Value} {ta wd : Int} {route best : List Int} {least : Int} {W W' : World}
theorem RtS.below (h : RtS w gr gt gb gl gL gp gm gc vL vP vr vb ta wd route best least W) (hb : Below W.heap.size W W') : RtS w gr gt gb gl gL gp gm gc vL vP vr vb ta wd route best least W' :=
 ⟨below_step h.b hb, blk_below h.hr hb, blk_below h.ht hb, blk_below h.hb hb, blk_below h.hl hb, blk_below h.hL hb, blk_below h.hp hb, blk_below h.hm hb, blk_below h.hc hb, Kd.R_below h.rr hb, Kd.R_below h.rb hb, h.nb⟩
theorem RtS.drewN (h : RtS w gr gt gb gl gL gp gm gc vL vP vr vb ta wd route best least W) (n : Nat) : RtS w gr gt gb gl gL gp gm gc vL vP vr vb ta wd route best least (W.drewN n) := h.below (pw_below_drewN (Below.refl _ _) n)
theorem RtS.leaf (ho : RtOrd w gr gt gb gl gL gp gm gc) (h : RtS w gr gt gb gl gL gp gm gc vL vP vr vb ta wd route best least W) (hb : Below W.heap.size W W') {ad : Addr} {n c : Nat} {route' : List Int} (hR : Kd.R (Kd.int .i64) 3 W' W.heap.size (fun _ => True) (.slice (some ad) n c) route') (hne : route' ≠ []) (len : Int) :
  RtS w gr gt gb gl gL gp gm gc vL vP vr (.slice (some ad) n c) ta wd route route' len ((W'.setCell ⟨gb, 0, none⟩ (.slice (some ad) n c)).setCell ⟨gl, 0, none⟩ (.int .i64 len)) := by
 have o := ho.ord; have h1 := h.below hb; have hgl : gl < W.heap.size := blk_lt h.hl; have rr1 : Kd.R (Kd.int .i64) 3 W' w.heap.size (fun k => (k ≠ gl ∧ k ≠ gt ∧ k ≠ gm) ∧ some k ≠ (Value.slice (some ad) n c).ownBlock) vr route := Kd.R_below (Kd.R_mono (Kd.R_bound h.rr) (fun k hk => ⟨hk.1.1, fun e => Nat.lt_irrefl _ (Nat.lt_of_lt_of_le hk.2.2.1 (Kd.R_base hR k e.symm))⟩)) hb; have rb1 : Kd.R (Kd.int .i64) 3 W' w.heap.size (fun k => (k ≠ gl ∧ k ≠ gt ∧ k ≠ gm) ∧ some k ≠ vr.ownBlock) (.slice (some ad) n c) route' := Kd.R_lower (Kd.R_mono (Kd.R_bound hR) (fun k hk => ⟨by have := hk.2.1; omega, fun e => Nat.lt_irrefl _ (Nat.lt_of_lt_of_le (Kd.R_lt h.rr k e.symm) hk.2.1)⟩)) h.b.size; have hb1 := blk_put h1.hb 0 (.slice (some ad) n c) (cs' := #[.slice (some ad) n c]) rfl; have hl1 := blk_far h1.hl (p := ⟨gb, 0, none⟩) (by simp only; omega) (.slice (some ad) n c)
 refine ⟨(h1.b.setCell (p := ⟨gb, 0, none⟩) (by simp only; omega) _).setCell (p := ⟨gl, 0, none⟩) (by simp only; omega) _, ?_, ?_, ?_, blk_put hl1 0 _ rfl, ?_, ?_, ?_, ?_, ?_, ?_, .inr ⟨hne, ad, n, c, rfl⟩⟩
 ·exact blk_far (blk_far h1.hr (by simp only; omega) _) (by simp only; omega) _
 ·exact blk_far (blk_far h1.ht (by simp only; omega) _) (by simp only; omega) _
 ·exact blk_far hb1 (by simp only; omega) _
 ·exact blk_far (blk_far h1.hL (by simp only; omega) _) (by simp only; omega) _
 ·exact blk_far (blk_far h1.hp (by simp only; omega) _) (by simp only; omega) _
 ·exact blk_far (blk_far h1.hm (by simp only; omega) _) (by simp only; omega) _
 ·exact blk_far (blk_far h1.hc (by simp only; omega) _) (by simp only; omega) _
 ·exact Kd.R_far (p := ⟨gl, 0, none⟩) (Kd.R_set rr1 h1.hb (by decide) 0 _) (fun k hk => hk.1.1) _
 ·exact Kd.R_far (p := ⟨gl, 0, none⟩) (Kd.R_set rb1 h1.hb (by decide) 0 _) (fun k hk => hk.1.1) _
theorem RtS.append (ho : RtOrd w gr gt gb gl gL gp gm gc) (h : RtS w gr gt gb gl gL gp gm gc vL vP vr vb ta wd route best least W) {v1 : Value} {route' : List Int} (hR : Kd.R (Kd.int .i64) 3 W' w.heap.size (fun k => (k ≠ gl ∧ k ≠ gt ∧ k ≠ gm) ∧ some k ≠ vb.ownBlock) v1 route')
  (hB : Below w.heap.size w W') (hg : W.grownBy W' vr.ownBlock) (hat : v1.ownBlock = vr.ownBlock ∨ ∃ b, v1.ownBlock = some b ∧ W.heap.size ≤ b) :
  RtS w gr gt gb gl gL gp gm gc vL vP v1 vb ta wd route' best least (W'.setCell ⟨gr, 0, none⟩ v1) := by
 have o := ho.ord; have hr1 := blk_grown h.hr hg (Kd.R_ne h.rr h.hr (by decide)); have rb1 : Kd.R (Kd.int .i64) 3 W' w.heap.size (fun k => (k ≠ gl ∧ k ≠ gt ∧ k ≠ gm) ∧ some k ≠ v1.ownBlock) vb best := Kd.R_after h.rb hg hat
 refine ⟨hB.setCell (p := ⟨gr, 0, none⟩) (by simp only; omega) _, blk_put hr1 0 _ rfl, ?_, ?_, ?_, ?_, ?_, ?_, ?_, ?_, ?_, h.nb⟩
 ·exact blk_far (blk_grown h.ht hg (fun e => (h.rr.1 gt e.symm).1.2.1 rfl)) (by simp only; omega) _
 ·exact blk_far (blk_grown h.hb hg (Kd.R_ne h.rr h.hb (by decide))) (by simp only; omega) _
 ·exact blk_far (blk_grown h.hl hg (fun e => (h.rr.1 gl e.symm).1.1 rfl)) (by simp only; omega) _
 ·exact blk_far (blk_grown h.hL hg (Kd.R_ne h.rr h.hL (by decide))) (by simp only; omega) _
 ·exact blk_far (blk_grown h.hp hg (Kd.R_ne h.rr h.hp (by decide))) (by simp only; omega) _
 ·exact blk_far (blk_grown h.hm hg (fun e => (h.rr.1 gm e.symm).1.2.2 rfl)) (by simp only; omega) _
 ·exact blk_far (blk_grown h.hc hg (Kd.R_ne h.rr h.hc (by decide))) (by simp only; omega) _
 ·exact Kd.R_set hR hr1 (by decide) 0 _
 ·exact Kd.R_set rb1 hr1 (by decide) 0 _
theorem own_take (A : Option Addr) (n m c : Nat) : (Value.slice A n c).ownBlock = (Value.slice A m c).ownBlock := by cases A <;> rfl
theorem RtS.take (ho : RtOrd w gr gt gb gl gL gp gm gc) {A : Option Addr} {n c m : Nat} (h : RtS w gr gt gb gl gL gp gm gc vL vP (.slice A n c) vb ta wd route best least W) (hm : m ≤ route.length) :
  RtS w gr gt gb gl gL gp gm gc vL vP (.slice A m c) vb ta wd (route.take m) best least (W.setCell ⟨gr, 0, none⟩ (.slice A m c)) := by
 have o := ho.ord
 refine ⟨h.b.setCell (p := ⟨gr, 0, none⟩) (by simp only; omega) _, blk_put h.hr 0 _ rfl, ?_, ?_, ?_, ?_, ?_, ?_, ?_, ?_, ?_, h.nb⟩
 ·exact blk_far h.ht (by simp only; omega) _
 ·exact blk_far h.hb (by simp only; omega) _
 ·exact blk_far h.hl (by simp only; omega) _
 ·exact blk_far h.hL (by simp only; omega) _
 ·exact blk_far h.hp (by simp only; omega) _
 ·exact blk_far h.hm (by simp only; omega) _
 ·exact blk_far h.hc (by simp only; omega) _
 ·exact Kd.R_set (Kd.R_take h.rr hm) h.hr (by decide) 0 _
 ·rw [own_take A m n c]; exact Kd.R_set h.rb h.hr (by decide) 0 _
end
set_option maxHeartbeats 4000000 in
theorem rt_calls (k : Nat) (w : World) (gr gt gb gl gL gp gm gc : Nat) (ho : RtOrd w gr gt gb gl gL gp gm gc) (A0 : Option Addr) (c0 : Nat) (l0 : List S58) (A1 : Option Addr) (c1 : Nat) (l1 : List Int) (ta wd : Int) (hr0 : Kd.C k58 w A0 l0.length l0) (hc0 : l0.length ≤ c0) (hr1 : Kd.C (Kd.int .i64) w A1 l1.length l1) (hc1 : l1.length ≤ c1) :
  ∀ (d : Nat) (route : List Int) (len : Int) (best : List Int) (least : Int) (vr vb : Value) (W : World) (st' : RtSt), rtGo k l0 l1 ta wd d route len (best, least) = some st' → RtS w gr gt gb gl gL gp gm gc (.slice A0 l0.length c0) (.slice A1 l1.length c1) vr vb ta wd route best least W →
  Calls Try.prog 35 #[.int .i64 len, .pointer (some ⟨gr, 0, none⟩), .pointer (some ⟨gt, 0, none⟩), .pointer (some ⟨gb, 0, none⟩), .pointer (some ⟨gl, 0, none⟩), .pointer (some ⟨gL, 0, none⟩), .pointer (some ⟨gp, 0, none⟩), .pointer (some ⟨gm, 0, none⟩), .pointer (some ⟨gc, 0, none⟩)] W fun e W' => (∃ v, e = .returned v) ∧
   ∃ vr' vb', RtS w gr gt gb gl gL gp gm gc (.slice A0 l0.length c0) (.slice A1 l1.length c1) vr' vb' ta wd route st'.1 st'.2 W' := by
 have HO := Aside0.mk ho; have HR0 := Aside0.mk hr0; have HC0 := Aside0.mk hc0; have HR1 := Aside0.mk hr1; have HC1 := Aside0.mk hc1; clear ho hr0 hc0 hr1 hc1
 have qeq : ∀ (w : World) (a : Option Addr) (n c n' c' : Nat), (binOp .eql 25 (.slice a n c) (.slice none n' c')).run Try.prog w = .ok (.bool a.isNone) w := fun w a n c n' c' => by
  have hh : ∀ d : Nat, (Op.equalIn (d + 1) 25 (.slice a n c) (.slice none n' c')).run Try.prog w = .ok a.isNone w := fun d => by
   cases a <;> simp [Op.equalIn, run_underlying Try.underlying25]
  simp only [binOp]
  simp [Op.equal, Op.maxDepth, hh 9999]
 intro d
 induction d with
 | zero =>
  intro route len best least vr vb W st' hgo
  cases hgo
 | succ d ih =>
  intro route len best least vr vb W st' hgo hS; have hgo2 := hgo; simp only [rtGo] at hgo
  split at hgo
  case isFalse => cases hgo
  rename_i hrl
  obtain ⟨Ar, cr, er, hlr, hCr⟩ := Kd.R_reads hS.rr; subst er
  have hwl : wrap64 ((route.length : Int) - 1) = (route.length : Int) - 1 := by unfold wrap64; omega
  have px : (0 : Int) ≤ wrap64 ((route.length : Int) - 1) := by omega
  have qx : wrap64 ((route.length : Int) - 1) < (route.length : Int) := by omega
  obtain ⟨ad, ea, hx⟩ := Kd.at_int hCr (wrap64 ((route.length : Int) - 1)) px qx; cases ea; obtain ⟨la, hla⟩ : ∃ la, la = rtLast route := ⟨_, rfl⟩; rw [← hla] at hgo
  replace hx : W.cell? (ad.add (wrap64 ((route.length : Int) - 1)).toNat) = some (.int .i64 la) := by rw [hla]; exact hx
  replace px := eq_true px; replace qx := eq_true qx; have hcr : W.cell? ⟨gr, 0, none⟩ = some (.slice (some ad) route.length cr) := (blk_cell hS.hr 0).trans rfl; have hct : W.cell? ⟨gt, 0, none⟩ = some (.int .i64 ta) := (blk_cell hS.ht 0).trans rfl; have hcb : W.cell? ⟨gb, 0, none⟩ = some vb := (blk_cell hS.hb 0).trans rfl; have hcl : W.cell? ⟨gl, 0, none⟩ = some (.int .i64 least) := (blk_cell hS.hl 0).trans rfl; have hcL : W.cell? ⟨gL, 0, none⟩ = some (.slice A0 l0.length c0) := (blk_cell hS.hL 0).trans rfl; have hcp : W.cell? ⟨gp, 0, none⟩ = some (.slice A1 l1.length c1) := (blk_cell hS.hp 0).trans rfl; have HS := Aside0.mk hS; have HLr := Aside0.mk hlr; have HCr := Aside0.mk hCr; have HLA := Aside0.mk hla; have HRL := Aside0.mk hrl; have HNB := Aside0.mk hS.nb; clear hlr hCr hS hla hrl hwl hgo2
  by_cases hto : la = ta
  ·have e1 : (la == ta) = true := beq_iff_eq.2 hto; rw [if_pos hto] at hgo; have HGO := Aside0.mk (Option.some.inj hgo); have HCL := Aside0.mk (slices_Clone_int_int.calls (some ad) cr route route W HCr.out HLr.out (by unfold slices_Clone_int_int.f; exact if_pos (by have := HRL.out; omega))); clear hgo hto hcL hcp
   rcases HNB.out with ⟨hbn, rfl⟩ | ⟨hbn, ad2, n2, c2, rfl⟩
   ·have HQ : Aside0 ((route, len) = st') := ⟨by rw [← HGO.out]; exact (if_pos (.inl hbn)).symm⟩; clear hbn
    go_enter Try.func35, Try.ntmps35
    go_wp2_with (go_at_call 36; refine HCL.out.mono ?_; rintro e w1 ⟨v', rfl, hR, hb⟩; obtain ⟨g', c', e', _⟩ := Kd.R_form hR (by have := HRL.out; omega); subst e'; have HS1 := Aside0.mk (HS.out.below hb); have HN := Aside0.mk (RtS.leaf HO.out HS.out hb hR (fun e_ => by have := HRL.out; rw [e_] at this; simp at this) len); clear hR hb; have hcb1 := (blk_cell HS1.out.hb 0); have hfb1 := blk_frozen HS1.out.hb 0; have hk1 := blk_far HS1.out.hl (p := ⟨gb, 0, none⟩) (by have := HO.out.ord; simp only; omega) (.slice (some ⟨g', 0, none⟩) route.length c'); have hcl1 : (w1.setCell ⟨gb, 0, none⟩ (.slice (some ⟨g', 0, none⟩) route.length c')).cell? ⟨gl, 0, none⟩ = some (.int .i64 least) := (blk_cell hk1 0).trans rfl; have hfl1 := blk_frozen hk1 0; clear hk1)
    refine bodyPost_ret (results_none rfl _ _ _) rfl ?_
    exact ⟨⟨_, rfl⟩, _, _, by rw [← HQ.out]; exact HN.out⟩
   ·by_cases hq : len < least
    ·have HQ : Aside0 ((route, len) = st') := ⟨by rw [← HGO.out]; exact (if_pos (.inr hq)).symm⟩; have dq : decide (len < least) = true := decide_eq_true hq; clear hbn hq
     go_enter Try.func35, Try.ntmps35
     go_wp2_with (go_at_call 36; refine HCL.out.mono ?_; rintro e w1 ⟨v', rfl, hR, hb⟩; obtain ⟨g', c', e', _⟩ := Kd.R_form hR (by have := HRL.out; omega); subst e'; have HS1 := Aside0.mk (HS.out.below hb); have HN := Aside0.mk (RtS.leaf HO.out HS.out hb hR (fun e_ => by have := HRL.out; rw [e_] at this; simp at this) len); clear hR hb; have hcb1 := (blk_cell HS1.out.hb 0); have hfb1 := blk_frozen HS1.out.hb 0; have hk1 := blk_far HS1.out.hl (p := ⟨gb, 0, none⟩) (by have := HO.out.ord; simp only; omega) (.slice (some ⟨g', 0, none⟩) route.length c'); have hcl1 : (w1.setCell ⟨gb, 0, none⟩ (.slice (some ⟨g', 0, none⟩) route.length c')).cell? ⟨gl, 0, none⟩ = some (.int .i64 least) := (blk_cell hk1 0).trans rfl; have hfl1 := blk_frozen hk1 0; clear hk1)
     refine bodyPost_ret (results_none rfl _ _ _) rfl ?_
     exact ⟨⟨_, rfl⟩, _, _, by rw [← HQ.out]; exact HN.out⟩
    ·have HQ : Aside0 ((best, least) = st') := ⟨by rw [← HGO.out]; exact (if_neg (fun h => h.elim hbn hq)).symm⟩; have dq : decide (len < least) = false := decide_eq_false hq; clear hbn hq
     go_enter Try.func35, Try.ntmps35
     go_wp2
     refine bodyPost_ret (results_none rfl _ _ _) rfl ?_
     exact ⟨⟨_, rfl⟩, _, _, by rw [← HQ.out]; exact HS.out⟩
  ·have e1 : (la == ta) = false := beq_eq_false_iff_ne.2 hto; rw [if_neg hto] at hgo; have HGO := Aside0.mk hgo; clear hgo hto hcb hcl HNB qeq
   go_enter Try.func35, Try.ntmps35
   go_wp2
   go_loopg [32] 8 (fun kq v32 w' => ∃ (x : Int) (st : RtSt) (vr vb : Value), v32 = .int .i64 x ∧ Aside0 (0 ≤ x ∧ kq + x.toNat = 8 ∧ rtLoop (rtGo k l0 l1 ta wd d) k l0 l1 wd la route len kq x.toNat st = some st') ∧ Aside0 (RtS w gr gt gb gl gL gp gm gc (.slice A0 l0.length c0) (.slice A1 l1.length c1) vr vb ta wd route st.1 st.2 w'))
   case atStart => exact ⟨0, (best, least), _, _, rfl, ⟨by omega, by simp, HGO.out⟩, HS⟩
   case round =>
    clear HGO HS hcr hct hcL hcp hx px qx HLr HCr; obtain ⟨x, st, vr, vb, rfl, HX, HS⟩ := hrel
    by_cases hlt : x < 8
    ·have d0 : decide (x < 8) = true := decide_eq_true hlt; have HLT := Aside0.mk hlt; clear hlt; obtain ⟨k1, rfl⟩ : ∃ k1, gk = k1 + 1 := ⟨gk - 1, by have := HX.out; have := HLT.out; omega⟩; have HXN : Aside0 (((x.toNat : Nat) : Int) = x) := ⟨Int.toNat_of_nonneg HX.out.1⟩; have HX1 : Aside0 (0 ≤ wrap64 (x + 1) ∧ k1 + (wrap64 (x + 1)).toNat = 8 ∧ (wrap64 (x + 1)).toNat = x.toNat + 1) := ⟨by have := HX.out.1; have := HX.out.2.1; have := HLT.out; unfold wrap64; omega, by have := HX.out.1; have := HX.out.2.1; have := HLT.out; unfold wrap64; omega, by have := HX.out.1; have := HX.out.2.1; have := HLT.out; unfold wrap64; omega⟩; have hst := HX.out.2.2; simp only [rtLoop, HXN.out] at hst; obtain ⟨q, hq, hst⟩ := Option.bind_eq_some_iff.1 hst; obtain ⟨Ar, cr, er, hlr, hCr⟩ := Kd.R_reads HS.out.rr; subst er; have HBT := Aside0.mk (by exact impl_between.calls k A0 c0 l0 A1 c1 l1 la x q wr (Kd.C_below HR0.out HS.out.b) HC0.out (Kd.C_below HR1.out HS.out.b) HC1.out hq); have hcL : wr.cell? ⟨gL, 0, none⟩ = some (.slice A0 l0.length c0) := (blk_cell HS.out.hL 0).trans rfl; have hcp : wr.cell? ⟨gp, 0, none⟩ = some (.slice A1 l1.length c1) := (blk_cell HS.out.hp 0).trans rfl; have HHAS := Aside0.mk (by exact has_total route x hCr.2.1 (route.length + 1) (Nat.lt_succ_self _)); have HLr := Aside0.mk hlr; have HCr := Aside0.mk hCr; have HST := Aside0.mk hst; clear hst hq hlr hCr
     go_wp2_with (go_at_call 37; refine HBT.out.mono ?_; rintro e w1 ⟨rfl, hb⟩; have HS1 := Aside0.mk (HS.out.below hb); have HCr1 := Aside0.mk (Kd.C_below HCr.out hb); clear hb)
     clear HS HBT HCr hcL hcp; have hcr : w1.cell? ⟨gr, 0, none⟩ = some (.slice Ar route.length cr) := (blk_cell HS1.out.hr 0).trans rfl
     by_cases hin : x ∈ route
     ·rw [decide_eq_true hin] at HHAS; have hst := HST.out; rw [if_pos (Or.inl hin)] at hst; have HST := Aside0.mk hst; clear hin hst
      go_quiet (first | (go_at_call 38; (with_reducible refine (impl_has.calls (route.length + 1) _ _ route x _ _ ?s1 HLr.out HHAS.out).mono ?_); (case s1 => exact (qR44)); rintro e w' ⟨rfl, ⟨nd, rfl⟩⟩; (try first | exact ⟨rfl, _, World.drewN_drewN _ _ _⟩ | exact ⟨rfl, _, Eq.trans (World.drewN_drewN _ _ _) (congrArg (World.drewN _) (Nat.add_assoc _ _ _))⟩)))
      go_wp2
      go_roundg k1
      case measure => omega
      case rel => exact ⟨wrap64 (x + 1), st, _, _, rfl, ⟨HX1.out.1, HX1.out.2.1, by rw [HX1.out.2.2]; exact HST.out⟩, ⟨HS1.out.drewN _⟩⟩
     ·rw [decide_eq_false hin] at HHAS
      by_cases hneg : q < 0
      ·have d1 : decide (q < 0) = true := decide_eq_true hneg; have hst := HST.out; rw [if_pos (Or.inr hneg)] at hst; have HST := Aside0.mk hst; clear hin hst hneg
       go_quiet (first | (go_at_call 38; (with_reducible refine (impl_has.calls (route.length + 1) _ _ route x _ _ ?s1 HLr.out HHAS.out).mono ?_); (case s1 => exact (qR44)); rintro e w' ⟨rfl, ⟨nd, rfl⟩⟩; (try first | exact ⟨rfl, _, World.drewN_drewN _ _ _⟩ | exact ⟨rfl, _, Eq.trans (World.drewN_drewN _ _ _) (congrArg (World.drewN _) (Nat.add_assoc _ _ _))⟩)))
       go_wp2
       go_roundg k1
       case measure => omega
       case rel => exact ⟨wrap64 (x + 1), st, _, _, rfl, ⟨HX1.out.1, HX1.out.2.1, by rw [HX1.out.2.2]; exact HST.out⟩, ⟨HS1.out.drewN _⟩⟩
      ·have d1 : decide (q < 0) = false := decide_eq_false hneg; have hst := HST.out; rw [if_neg (fun h => h.elim hin hneg)] at hst
       split at hst
       case isFalse => cases hst
       rename_i hbd
       have hcp : w1.cell? ⟨gp, 0, none⟩ = some (.slice A1 l1.length c1) := (blk_cell HS1.out.hp 0).trans rfl; have hcm : w1.cell? ⟨gm, 0, none⟩ = some (.int .i64 wd) := (blk_cell HS1.out.hm 0).trans rfl; have p0 : 0 ≤ q := Int.not_lt.1 hneg; obtain ⟨adp, ep, hxp⟩ := Kd.at_int (Kd.C_below HR1.out HS1.out.b) q p0 hbd.1; cases ep; have HBD := Aside0.mk hbd; have HP0 := Aside0.mk p0; have pq := eq_true p0; have qq := eq_true hbd.1; clear hbd hneg hin p0
       by_cases hlow : rd l1 q < wd
       ·have dl : decide (rd l1 q < wd) = true := decide_eq_true hlow; rw [if_pos hlow] at hst; have HST := Aside0.mk hst; clear hst hlow
        go_quiet (first | (go_at_call 38; (with_reducible refine (impl_has.calls (route.length + 1) _ _ route x _ _ ?s1 HLr.out HHAS.out).mono ?_); (case s1 => exact (qR44)); rintro e w' ⟨rfl, ⟨nd, rfl⟩⟩; (try first | exact ⟨rfl, _, World.drewN_drewN _ _ _⟩ | exact ⟨rfl, _, Eq.trans (World.drewN_drewN _ _ _) (congrArg (World.drewN _) (Nat.add_assoc _ _ _))⟩)))
        go_wp2
        go_roundg k1
        case measure => omega
        case rel => exact ⟨wrap64 (x + 1), st, _, _, rfl, ⟨HX1.out.1, HX1.out.2.1, by rw [HX1.out.2.2]; exact HST.out⟩, ⟨HS1.out.drewN _⟩⟩
       ·have dl : decide (rd l1 q < wd) = false := decide_eq_false hlow; rw [if_neg hlow] at hst; obtain ⟨st2, hgo2, hst⟩ := Option.bind_eq_some_iff.1 hst; have HST := Aside0.mk hst; have HGO2 := Aside0.mk hgo2; clear hst hlow hgo2
        go_quiet (first | (go_at_call 38; (with_reducible refine (impl_has.calls (route.length + 1) _ _ route x _ _ ?s1 HLr.out HHAS.out).mono ?_); (case s1 => exact (qR44)); rintro e w' ⟨rfl, ⟨nd, rfl⟩⟩; (try first | exact ⟨rfl, _, World.drewN_drewN _ _ _⟩ | exact ⟨rfl, _, Eq.trans (World.drewN_drewN _ _ _) (congrArg (World.drewN _) (Nat.add_assoc _ _ _))⟩)))
        have HS2 := Aside0.mk (HS1.out.drewN nq); clear HS1 HCr1 hcr hcp hcm hxp pq qq dl d1
        generalize w1.drewN nq = w2 at HS2 ⊢
        have hcr2 : w2.cell? ⟨gr, 0, none⟩ = some (.slice Ar route.length cr) := (blk_cell HS2.out.hr 0).trans rfl; have hfr2 := blk_frozen HS2.out.hr 0
        go_wp2_with (first | ((with_reducible refine gate_builtin (b := .append) (xs := #[.tmp 55, .tmp 57]) rfl ?_); at_builtin; refine Kd.R_append (Kd.int .i64) (w0 := w) w.heap.size rfl (.tmp 55) (.tmp 57) 25 3 (.int .i64 0) 8 rfl Try.underlying25 info3 rfl (by decide) (by omega) (.slice Ar route.length cr) route x [.int .i64 x] (fun k_ => (k_ ≠ gl ∧ k_ ≠ gt ∧ k_ ≠ gm) ∧ some k_ ≠ vb.ownBlock) (fun _ => False) rfl rfl ?aP (fun _ hk => hk.elim) ?aF ?aO ?aB ?aS ?aL ?_; (case aP => exact rfl); (case aB => exact HS2.out.b); (case aF => exact (by exact fun k_ hk_ => ⟨by have h1_ := blk_lt HS2.out.hl; have h2_ := blk_lt HS2.out.ht; have h3_ := blk_lt HS2.out.hm; omega, fun e_ => Nat.lt_irrefl _ (Nat.lt_of_lt_of_le (Kd.R_lt HS2.out.rb k_ e_.symm) hk_)⟩)); (case aO => exact HS2.out.rr); (case aS => exact HS2.out.b.size); (case aL => have h_ := HRL.out; omega); intro v212 w22 ho hb hg hat; obtain ⟨A3, c3, e3⟩ := Kd.R_slice ho; rw [List.length_append, List.length_singleton] at e3; subst e3; have HN := Aside0.mk (by exact RtS.append HO.out HS2.out ho hb hg hat); have hk1 := blk_grown HS2.out.hr hg (Kd.R_ne HS2.out.rr HS2.out.hr (by decide)); have hcg : w22.cell? ⟨gr, 0, none⟩ = some (.slice Ar route.length cr) := (blk_cell hk1 0).trans rfl; have hfg := blk_frozen hk1 0; clear ho hb hg hat hk1))
        clear hcg hfg hcr2 hfr2 HS2
        generalize w22.setCell ⟨gr, 0, none⟩ (.slice A3 (route.length + 1) c3) = w23 at HN ⊢
        have hcc : w23.cell? ⟨gc, 0, none⟩ = some (.func (.func 35) #[] #[.pointer (some ⟨gr, 0, none⟩), .pointer (some ⟨gt, 0, none⟩), .pointer (some ⟨gb, 0, none⟩), .pointer (some ⟨gl, 0, none⟩), .pointer (some ⟨gL, 0, none⟩), .pointer (some ⟨gp, 0, none⟩), .pointer (some ⟨gm, 0, none⟩), .pointer (some ⟨gc, 0, none⟩)]) := (blk_cell HN.out.hc 0).trans rfl; have hcL : w23.cell? ⟨gL, 0, none⟩ = some (.slice A0 l0.length c0) := (blk_cell HN.out.hL 0).trans rfl; obtain ⟨adl, el, hxl0, hxl1, hxl2, hxl3, hxl4⟩ := at_T58 (Kd.C_below HR0.out HN.out.b) q HP0.out HBD.out.2; cases el; obtain ⟨pl, hpl⟩ : ∃ pl, pl = rd_T58 l0 q := ⟨_, rfl⟩; have hgo2 := HGO2.out; rw [← hpl] at hxl2 hgo2; have HGO2 := Aside0.mk hgo2; replace hxl2 : w23.cell? ⟨(adl.add (q.toNat * 5)).block, (adl.add (q.toNat * 5)).off + 2, none⟩ = some (.int .i64 pl.f2) := hxl2; have pq := eq_true HP0.out; have ql := eq_true HBD.out.2; clear hxl0 hxl1 hxl3 hxl4 hpl hgo2
        go_still_tail 8, (by kernel_rfl)
        have HN3 := Aside0.mk (by exact HN.out.below (below_drew1 (Below.refl _ _))); clear hcc hcL hxl2 HN
        change wpList _ _ _ _ _ w23.drew
        generalize w23.drew = w24 at HN3 ⊢
        have hwl : wrap64 (route.length : Int) = (route.length : Int) := by have := HRL.out; unfold wrap64; omega
        have hsl : ∀ (A4 : Option Addr) (c4 : Nat) (_ : route.length + 1 ≤ c4) (W : World), (Instr.slice 25 (.slice A4 (route.length + 1) c4) none (some (.int .i64 (route.length : Int))) none).run Try.prog W = .ok (.slice A4 route.length c4) W := fun A4 c4 hc4 W => by
         obtain ⟨i0, hi, hzz⟩ := Option.map_eq_some_iff.1 info3; simp only [Prod.mk.injEq] at hzz; have h := (print_take_of (P := Try.prog) (Value.int .i64) 0 25 3 .i64 Try.underlying25 hi hzz.2.1 A4 c4 (route ++ [x]) (route.length : Int) (Int.natCast_nonneg _) (by simp; omega) (by simpa using hc4)).1 W
         simpa using h
        go_wp2_with (first | (go_at_call 35; refine (ih (route ++ [x]) (wrap64 (len + pl.f2)) st.1 st.2 _ vb _ st2 HGO2.out HN3.out).mono ?_; rintro e w4 ⟨⟨v, rfl⟩, vr', vb', hS4⟩; obtain ⟨A4, c4, e4, hl4, _⟩ := Kd.R_reads hS4.rr; rw [List.length_append, List.length_singleton] at e4 hl4; subst e4; have HT := Aside0.mk (by exact RtS.take HO.out hS4 (m := route.length) (by rw [List.length_append]; omega)); have hsl4 := hsl A4 c4 hl4; have hcr4 : w4.cell? ⟨gr, 0, none⟩ = some (.slice A4 (route.length + 1) c4) := (blk_cell hS4.hr 0).trans rfl; have hfr4 := blk_frozen hS4.hr 0; clear hS4 hl4))
        go_roundg k1
        case measure => omega
        case rel => exact ⟨wrap64 (x + 1), st2, _, _, rfl, ⟨HX1.out.1, HX1.out.2.1, by rw [HX1.out.2.2]; exact HST.out⟩, ⟨by have h := HT.out; rw [List.take_left] at h; exact h⟩⟩
    ·have d0 : decide (x < 8) = false := decide_eq_false hlt
     obtain rfl : gk = 0 := by have := HX.out.1; have := HX.out.2.1; omega
     have HE : Aside0 (st = st') := ⟨Option.some.inj HX.out.2.2⟩; clear hlt HX
     go_wp2
     go_end0
     exact ⟨⟨_, rfl⟩, _, _, by rw [← HE.out]; exact HS.out⟩
theorem run_store_fn (P : Program) (w : World) (a : Addr) (m : Mode) (f : _) (x : _) (y : _) : (store a (.func f x y) m).run P w = stored P w a (.func f x y) m := run_store P w a _ m rfl
attribute [local go_sem] run_store_fn
set_option maxHeartbeats 4000000 in
theorem impl_BestRoute.calls (k : Nat) (A0 : Option Addr) (c0 : Nat) (l0 : List S58) (A1 : Option Addr) (c1 : Nat) (l1 : List Int) (a2 a3 a4 : Int) (r1 : List Int) (r2 : Bool) (w : World) (hr0 : Kd.C k58 w A0 l0.length l0) (hc0 : l0.length ≤ c0) (hr1 : Kd.C (Kd.int .i64) w A1 l1.length l1) (hc1 : l1.length ≤ c1) (h : impl_BestRoute.f k l0 l1 a2 a3 a4 = some (r1, r2)) :
  Calls Try.prog 7 #[.slice A0 l0.length c0, .slice A1 l1.length c1, .int .i64 a2, .int .i64 a3, .int .i64 a4] w fun e w' => ∃ v0_ : Value, e = .returned (.tuple #[v0_, .bool r2]) ∧ Kd.R (Kd.int .i64) 3 w' w.heap.size (fun _ => True) v0_ r1 ∧ Below w.heap.size w w' := by
 unfold impl_BestRoute.f at h
 obtain ⟨t, ht, h⟩ := Option.bind_eq_some_iff.1 h; have HR0 := Aside0.mk hr0; have HC0 := Aside0.mk hc0; have HR1 := Aside0.mk hr1; have HC1 := Aside0.mk hc1; have HT := Aside0.mk ht; clear ht hr0 hc0 hr1 hc1
 cases t with
 | false =>
  rw [if_neg (by decide)] at h; simp only [Option.some.injEq, Prod.mk.injEq] at h; obtain ⟨rfl, rfl⟩ := h
  go_enter Try.func7, Try.ntmps7
  go_wp2_with (first | ((with_reducible refine gate_dst (N := 5) rfl ?_); refine box_event ?hg (N := 5) ?hd (cs := #[.slice A0 l0.length c0]) (t := 24) ?hr ?_; (case hd => rfl); (case hg => rfl); (case hr => exact (qR25)); intro gL hg w1 hbox hb; have HXgL := Aside0.mk hbox; have HBgL := Aside0.mk hb; have HEgL := Aside0.mk hg; clear hbox hb hg; skip) | ((with_reducible refine gate_dst (N := 6) rfl ?_); refine box_event ?hg (N := 6) ?hd (cs := #[.slice A1 l1.length c1]) (t := 25) ?hr ?_; (case hd => rfl); (case hg => rfl); (case hr => exact (qR25)); intro gp hg w2 hbox hb; have HXgp := Aside0.mk hbox; have HBgp := Aside0.mk hb; have HEgp := Aside0.mk hg; clear hbox hb hg; skip) | ((with_reducible refine gate_dst (N := 8) rfl ?_); refine box_event ?hg (N := 8) ?hd (cs := #[.int .i64 a3]) (t := 3) ?hr ?_; (case hd => rfl); (case hg => rfl); (case hr => exact (qR25)); intro gt hg w3 hbox hb; have HXgt := Aside0.mk hbox; have HBgt := Aside0.mk hb; have HEgt := Aside0.mk hg; clear hbox hb hg; skip) | ((with_reducible refine gate_dst (N := 9) rfl ?_); refine box_event ?hg (N := 9) ?hd (cs := #[.int .i64 a4]) (t := 3) ?hr ?_; (case hd => rfl); (case hg => rfl); (case hr => exact (qR25)); intro gm hg w4 hbox hb; have HXgm := Aside0.mk hbox; have HBgm := Aside0.mk hb; have HEgm := Aside0.mk hg; clear hbox hb hg; have HW4 := Aside0.mk (qR57); have y1 := blk_below (blk_below (blk_below HXgL.out HBgp.out) HBgt.out) HBgm.out; have y2 := blk_below (blk_below HXgp.out HBgt.out) HBgm.out; have y3 := blk_below HXgt.out HBgm.out; have hcL : w4.cell? ⟨gL, 0, none⟩ = some (.slice A0 l0.length c0) := (blk_cell y1 0).trans rfl; have hcp : w4.cell? ⟨gp, 0, none⟩ = some (.slice A1 l1.length c1) := (blk_cell y2 0).trans rfl; have hct : w4.cell? ⟨gt, 0, none⟩ = some (.int .i64 a3) := (blk_cell y3 0).trans rfl; clear y1 y2 y3) | (go_at_call 33; refine (impl_areEnds.calls k A0 c0 l0 A1 c1 l1 a2 a3 _ _ ?s1 HC0.out ?s2 HC1.out HT.out).mono ?_; (case s1 => exact (by exact Kd.C_below HR0.out HW4.out)); (case s2 => exact (by exact Kd.C_below HR1.out HW4.out)); rintro e w5 ⟨rfl, hb⟩; have HB5 := Aside0.mk hb; have hcm : w5.cell? ⟨gm, 0, none⟩ = some (.int .i64 a4) := (blk_cell (blk_below HXgm.out hb) 0).trans rfl; clear hb))
  go_ret2
  exact ⟨_, rfl, Kd.R_nil _ _ _ _ _, below_step HW4.out HB5.out⟩
 | true =>
  rw [if_pos rfl] at h; obtain ⟨u, hu, h⟩ := Option.bind_eq_some_iff.1 h; have HU := Aside0.mk hu; clear hu
  cases u with
  | false =>
   rw [if_neg (by decide)] at h; simp only [Option.some.injEq, Prod.mk.injEq] at h; obtain ⟨rfl, rfl⟩ := h
   go_enter Try.func7, Try.ntmps7
   go_wp2_with (first | ((with_reducible refine gate_dst (N := 5) rfl ?_); refine box_event ?hg (N := 5) ?hd (cs := #[.slice A0 l0.length c0]) (t := 24) ?hr ?_; (case hd => rfl); (case hg => rfl); (case hr => exact (qR25)); intro gL hg w1 hbox hb; have HXgL := Aside0.mk hbox; have HBgL := Aside0.mk hb; have HEgL := Aside0.mk hg; clear hbox hb hg; skip) | ((with_reducible refine gate_dst (N := 6) rfl ?_); refine box_event ?hg (N := 6) ?hd (cs := #[.slice A1 l1.length c1]) (t := 25) ?hr ?_; (case hd => rfl); (case hg => rfl); (case hr => exact (qR25)); intro gp hg w2 hbox hb; have HXgp := Aside0.mk hbox; have HBgp := Aside0.mk hb; have HEgp := Aside0.mk hg; clear hbox hb hg; skip) | ((with_reducible refine gate_dst (N := 8) rfl ?_); refine box_event ?hg (N := 8) ?hd (cs := #[.int .i64 a3]) (t := 3) ?hr ?_; (case hd => rfl); (case hg => rfl); (case hr => exact (qR25)); intro gt hg w3 hbox hb; have HXgt := Aside0.mk hbox; have HBgt := Aside0.mk hb; have HEgt := Aside0.mk hg; clear hbox hb hg; skip) | ((with_reducible refine gate_dst (N := 9) rfl ?_); refine box_event ?hg (N := 9) ?hd (cs := #[.int .i64 a4]) (t := 3) ?hr ?_; (case hd => rfl); (case hg => rfl); (case hr => exact (qR25)); intro gm hg w4 hbox hb; have HXgm := Aside0.mk hbox; have HBgm := Aside0.mk hb; have HEgm := Aside0.mk hg; clear hbox hb hg; have HW4 := Aside0.mk (qR57); have y1 := blk_below (blk_below (blk_below HXgL.out HBgp.out) HBgt.out) HBgm.out; have y2 := blk_below (blk_below HXgp.out HBgt.out) HBgm.out; have y3 := blk_below HXgt.out HBgm.out; have hcL : w4.cell? ⟨gL, 0, none⟩ = some (.slice A0 l0.length c0) := (blk_cell y1 0).trans rfl; have hcp : w4.cell? ⟨gp, 0, none⟩ = some (.slice A1 l1.length c1) := (blk_cell y2 0).trans rfl; have hct : w4.cell? ⟨gt, 0, none⟩ = some (.int .i64 a3) := (blk_cell y3 0).trans rfl; clear y1 y2 y3) | (go_at_call 33; refine (impl_areEnds.calls k A0 c0 l0 A1 c1 l1 a2 a3 _ _ ?s1 HC0.out ?s2 HC1.out HT.out).mono ?_; (case s1 => exact (by exact Kd.C_below HR0.out HW4.out)); (case s2 => exact (by exact Kd.C_below HR1.out HW4.out)); rintro e w5 ⟨rfl, hb⟩; have HB5 := Aside0.mk hb; have hcm : w5.cell? ⟨gm, 0, none⟩ = some (.int .i64 a4) := (blk_cell (blk_below HXgm.out hb) 0).trans rfl; clear hb) | (go_at_call 34; refine (impl_within.calls a4 0 200 _ _ HU.out).mono ?_; rintro e w6_ ⟨rfl, ⟨nd, rfl⟩⟩; have HB6 := Aside0.mk (by exact pw_below_drewN (Below.refl w5.heap.size w5) nd); generalize w5.drewN nd = w6 at HB6 ⊢))
   go_ret2
   exact ⟨_, rfl, Kd.R_nil _ _ _ _ _, below_step (below_step HW4.out HB5.out) HB6.out⟩
  | true =>
   rw [if_pos rfl] at h; obtain ⟨st, hgo, h⟩ := Option.bind_eq_some_iff.1 h; have h := Option.some.inj h; have hr1 : st.1 = r1 := congrArg Prod.fst h; have hr2 : decide (st.1 ≠ []) = r2 := congrArg Prod.snd h; have HGO := Aside0.mk hgo; have HRES1 := Aside0.mk hr1; have HRES2 := Aside0.mk hr2; clear h hgo hr1 hr2
   have qne : ∀ (w : World) (a : Option Addr) (n c n' c' : Nat), (binOp .neq 25 (.slice a n c) (.slice none n' c')).run Try.prog w = .ok (.bool (!a.isNone)) w := fun w a n c n' c' => by
    have hh : ∀ d : Nat, (Op.equalIn (d + 1) 25 (.slice a n c) (.slice none n' c')).run Try.prog w = .ok a.isNone w := fun d => by
     cases a <;> simp [Op.equalIn, run_underlying Try.underlying25]
    simp only [binOp]
    simp [Op.equal, Op.maxDepth, hh 9999]
   go_enter Try.func7, Try.ntmps7
   go_wp2_with (first | ((with_reducible refine gate_dst (N := 5) rfl ?_); refine box_event ?hg (N := 5) ?hd (cs := #[.slice A0 l0.length c0]) (t := 24) ?hr ?_; (case hd => rfl); (case hg => rfl); (case hr => exact (qR25)); intro gL hg w1 hbox hb; have HXgL := Aside0.mk hbox; have HBgL := Aside0.mk hb; have HEgL := Aside0.mk hg; clear hbox hb hg; skip) | ((with_reducible refine gate_dst (N := 6) rfl ?_); refine box_event ?hg (N := 6) ?hd (cs := #[.slice A1 l1.length c1]) (t := 25) ?hr ?_; (case hd => rfl); (case hg => rfl); (case hr => exact (qR25)); intro gp hg w2 hbox hb; have HXgp := Aside0.mk hbox; have HBgp := Aside0.mk hb; have HEgp := Aside0.mk hg; clear hbox hb hg; skip) | ((with_reducible refine gate_dst (N := 8) rfl ?_); refine box_event ?hg (N := 8) ?hd (cs := #[.int .i64 a3]) (t := 3) ?hr ?_; (case hd => rfl); (case hg => rfl); (case hr => exact (qR25)); intro gt hg w3 hbox hb; have HXgt := Aside0.mk hbox; have HBgt := Aside0.mk hb; have HEgt := Aside0.mk hg; clear hbox hb hg; skip) | ((with_reducible refine gate_dst (N := 9) rfl ?_); refine box_event ?hg (N := 9) ?hd (cs := #[.int .i64 a4]) (t := 3) ?hr ?_; (case hd => rfl); (case hg => rfl); (case hr => exact (qR25)); intro gm hg w4 hbox hb; have HXgm := Aside0.mk hbox; have HBgm := Aside0.mk hb; have HEgm := Aside0.mk hg; clear hbox hb hg; have HW4 := Aside0.mk (qR57); have y1 := blk_below (blk_below (blk_below HXgL.out HBgp.out) HBgt.out) HBgm.out; have y2 := blk_below (blk_below HXgp.out HBgt.out) HBgm.out; have y3 := blk_below HXgt.out HBgm.out; have hcL : w4.cell? ⟨gL, 0, none⟩ = some (.slice A0 l0.length c0) := (blk_cell y1 0).trans rfl; have hcp : w4.cell? ⟨gp, 0, none⟩ = some (.slice A1 l1.length c1) := (blk_cell y2 0).trans rfl; have hct : w4.cell? ⟨gt, 0, none⟩ = some (.int .i64 a3) := (blk_cell y3 0).trans rfl; clear y1 y2 y3) | (go_at_call 33; refine (impl_areEnds.calls k A0 c0 l0 A1 c1 l1 a2 a3 _ _ ?s1 HC0.out ?s2 HC1.out HT.out).mono ?_; (case s1 => exact (by exact Kd.C_below HR0.out HW4.out)); (case s2 => exact (by exact Kd.C_below HR1.out HW4.out)); rintro e w5 ⟨rfl, hb⟩; have HB5 := Aside0.mk hb; have hcm : w5.cell? ⟨gm, 0, none⟩ = some (.int .i64 a4) := (blk_cell (blk_below HXgm.out hb) 0).trans rfl; clear hb) | (go_at_call 34; refine (impl_within.calls a4 0 200 _ _ HU.out).mono ?_; rintro e w6_ ⟨rfl, ⟨nd, rfl⟩⟩; have HB6 := Aside0.mk (by exact pw_below_drewN (Below.refl w5.heap.size w5) nd); generalize w5.drewN nd = w6 at HB6 ⊢) | ((with_reducible refine gate_dst (N := 12) rfl ?_); refine box_event ?hg (N := 12) ?hd (cs := #[.slice none 0 0]) (t := 25) ?hr ?_; (case hd => rfl); (case hg => rfl); (case hr => exact (qR25)); intro gb hg w7 hbox hb; have HXgb := Aside0.mk hbox; have HBgb := Aside0.mk hb; have HEgb := Aside0.mk hg; clear hbox hb hg; skip) | ((with_reducible refine gate_dst (N := 13) rfl ?_); refine box_event ?hg (N := 13) ?hd (cs := #[.int .i64 0]) (t := 3) ?hr ?_; (case hd => rfl); (case hg => rfl); (case hr => exact (qR25)); intro gl hg w8 hbox hb; have HXgl := Aside0.mk hbox; have HBgl := Aside0.mk hb; have HEgl := Aside0.mk hg; clear hbox hb hg; have hcl : w8.cell? ⟨gl, 0, none⟩ = some (.int .i64 0) := (blk_cell HXgl.out 0).trans rfl; have hfl := blk_frozen HXgl.out 0) | ((with_reducible refine gate_dst (N := 28) rfl ?_); refine Kd.R_lit (Kd.int .i64) _ 3 ?hg (N := 28) ?hd (xs := [a2]) (inner := [.int .i64 a2]) (ok := fun _ => True) (okp := fun _ => True) ?hr ?hp (fun _ hk => hk) trivial (Below.refl _ _) (Nat.le_refl _) (by simp) ?_; (case hd => rfl); (case hg => rfl); (case hr => exact (qR25)); (case hp => exact (qR50)); intro v28 w9 ho hb hg_ hnew_; clear hg_ hnew_; obtain ⟨Ar, cr, er⟩ := Kd.R_slice ho; rw [List.length_singleton] at er; subst er; have HOr := Aside0.mk ho; have HBr := Aside0.mk hb; clear ho hb) | ((with_reducible refine gate_dst (N := 14) rfl ?_); refine box_event ?hg (N := 14) ?hd (cs := #[.slice none 0 0]) (t := 25) ?hr ?_; (case hd => rfl); (case hg => rfl); (case hr => exact (qR25)); intro gr hg w10 hbox hb; have HXgr := Aside0.mk hbox; have HBgr := Aside0.mk hb; have HEgr := Aside0.mk hg; clear hbox hb hg; have hcr : w10.cell? ⟨gr, 0, none⟩ = some (.slice none 0 0) := (blk_cell HXgr.out 0).trans rfl; have hfr := blk_frozen HXgr.out 0) | ((with_reducible refine gate_dst (N := 15) rfl ?_); refine box_event ?hg (N := 15) ?hd (cs := ?cs) (t := 54) ?hr ?_; (case hd => rfl); (case hg => rfl); (case hr => exact (qR25)); intro gc hg w11 hbox hb; have HXgc := Aside0.mk hbox; have HBgc := Aside0.mk hb; have HEgc := Aside0.mk hg; clear hbox hb hg; obtain ⟨zc, hzc⟩ : ∃ zc, w11.cell? ⟨gc, 0, none⟩ = some zc := ⟨_, (blk_cell HXgc.out 0).trans rfl⟩; have hfc := blk_frozen HXgc.out 0) | fail)
   clear hcL hcp hct hcm hcl hfl hcr hfr hzc hfc; obtain ⟨Z8, hZ8⟩ : ∃ Z, Z = w8.setCell ⟨gl, 0, none⟩ (.int .i64 0) := ⟨_, rfl⟩
   have z8 : Z8.heap.size = w8.heap.size := by rw [hZ8]; simp [World.setCell]
   have hBr : Below Z8.heap.size Z8 w9 := by rw [hZ8]; exact HBr.out
   have hOr : Kd.R (Kd.int .i64) 3 w9 Z8.heap.size (fun _ => True) (.slice Ar 1 cr) [a2] := by rw [hZ8]; exact HOr.out
   obtain ⟨Z10, hZ10⟩ : ∃ Z, Z = w10.setCell ⟨gr, 0, none⟩ (.slice Ar 1 cr) := ⟨_, rfl⟩
   have z10 : Z10.heap.size = w10.heap.size := by rw [hZ10]; simp [World.setCell]
   have hBc : Below Z10.heap.size Z10 w11 := by rw [hZ10]; exact HBgc.out
   have o1 := HEgL.out; have o2 := HEgp.out; have o3 := HEgt.out; have o4 := HEgm.out; have o5 := HEgb.out; have o6 := HEgl.out; have o7 := HEgr.out
   have o8 : gc = Z10.heap.size := by rw [hZ10]; exact HEgc.out
   have s1 := blk_lt HXgL.out; have s2 := blk_lt HXgp.out; have s3 := blk_lt HXgt.out; have s4 := blk_lt HXgm.out; have s5 := HB5.out.size; have s6 := HB6.out.size; have s7 := blk_lt HXgb.out; have s8 := blk_lt HXgl.out; have s9 := hBr.size; have s10 := blk_lt HXgr.out; have hord : RtOrd w gr gt gb gl gL gp gm gc := ⟨by omega⟩
   have C8 : Below w7.heap.size w7 Z8 := by
    rw [hZ8]
    exact HBgl.out.setCell (p := ⟨gl, 0, none⟩) (by simp only; omega) _
   have q2 : Z8.heap[gl]? = some (.cells #[.int .i64 0] 3 (0, 0)) := by
    rw [hZ8]
    exact blk_put HXgl.out 0 _ rfl
   have C10 : Below w9.heap.size w9 Z10 := by
    rw [hZ10]
    exact HBgr.out.setCell (p := ⟨gr, 0, none⟩) (by simp only; omega) _
   have q4 : Z10.heap[gr]? = some (.cells #[.slice Ar 1 cr] 25 (0, 0)) := by
    rw [hZ10]
    exact blk_put HXgr.out 0 _ rfl
   have C11 : Below Z10.heap.size Z10 (w11.setCell ⟨gc, 0, none⟩ (rtClo gr gt gb gl gL gp gm gc)) := hBc.setCell (p := ⟨gc, 0, none⟩) (by simp only; omega) _; have q5 := blk_put HXgc.out 0 (rtClo gr gt gb gl gL gp gm gc) (cs' := #[rtClo gr gt gb gl gL gp gm gc]) rfl; have D10 := below_step C10 C11; have D9 := below_step hBr D10; have D8 := below_step C8 D9; have D7 := below_step HBgb.out D8; have D6 := below_step HB6.out D7; have D5 := below_step HB5.out D6; have D4 := below_step HBgm.out D5; have D3 := below_step HBgt.out D4; have D2 := below_step HBgp.out D3; have D1 := below_step HBgL.out D2; have rr : Kd.R (Kd.int .i64) 3 (w11.setCell ⟨gc, 0, none⟩ (rtClo gr gt gb gl gL gp gm gc)) w.heap.size (fun k => (k ≠ gl ∧ k ≠ gt ∧ k ≠ gm) ∧ some k ≠ (Value.slice none 0 0).ownBlock) (.slice Ar 1 cr) [a2] :=
    Kd.R_lower (Kd.R_below (Kd.R_mono (Kd.R_bound hOr) (fun k hk => ⟨by have := hk.2.1; omega, by simp [Value.ownBlock]⟩)) D10) (by omega)
   have hS0 : RtS w gr gt gb gl gL gp gm gc (.slice A0 l0.length c0) (.slice A1 l1.length c1) (.slice Ar 1 cr) (.slice none 0 0) a3 a4 [a2] [] 0 (w11.setCell ⟨gc, 0, none⟩ (rtClo gr gt gb gl gL gp gm gc)) :=
    ⟨D1, blk_below q4 C11, blk_below HXgt.out D4, blk_below HXgb.out D8, blk_below q2 D9, blk_below HXgL.out D2, blk_below HXgp.out D3, blk_below HXgm.out D5, q5, rr, Kd.R_nil _ _ _ _ _, .inl ⟨rfl, rfl⟩⟩
   refine (rt_calls k w gr gt gb gl gL gp gm gc hord A0 c0 l0 A1 c1 l1 a3 a4 HR0.out HC0.out HR1.out HC1.out 9 [a2] 0 [] 0 _ _ _ st HGO.out hS0).mono ?_
   rintro e w12 ⟨⟨v, rfl⟩, vr', vb', hS⟩
   have HSF := Aside0.mk hS; have hb12 : w12.cell? ⟨gb, 0, none⟩ = some vb' := (blk_cell hS.hb 0).trans rfl; clear hS hS0 rr q2 q4 q5 C8 C10 C11 D1 D2 D3 D4 D5 D6 D7 D8 D9 D10 hBr hOr hBc z8 z10 hZ8 hZ10 o1 o2 o3 o4 o5 o6 o7 o8 s1 s2 s3 s4 s5 s6 s7 s8 s9 s10 hord
   rcases HSF.out.nb with ⟨hbn, rfl⟩ | ⟨hbn, ad2, n2, c2, rfl⟩
   ·have HR2 : Aside0 (r2 = false) := ⟨by rw [← HRES2.out]; exact decide_eq_false (fun h => h hbn)⟩
    go_wp2
    go_quiet (fail)
    go_wp2
    go_ret2
    obtain rfl := HR2.out
    exact ⟨_, rfl, by rw [← HRES1.out]; exact Kd.R_mono (Kd.R_below HSF.out.rb (pw_below_drewN (Below.refl _ _) _)) (fun _ _ => trivial), below_step HSF.out.b (pw_below_drewN (Below.refl _ _) _)⟩
   ·have HR2 : Aside0 (r2 = true) := ⟨by rw [← HRES2.out]; exact decide_eq_true hbn⟩
    go_wp2
    go_quiet (fail)
    go_wp2
    go_ret2
    obtain rfl := HR2.out
    exact ⟨_, rfl, by rw [← HRES1.out]; exact Kd.R_mono (Kd.R_below HSF.out.rb (pw_below_drewN (Below.refl _ _) _)) (fun _ _ => trivial), below_step HSF.out.b (pw_below_drewN (Below.refl _ _) _)⟩
theorem rtLoop_mono {F F' : List Int → Int → RtSt → Option RtSt} (hF : ∀ r n st, LeO (F r n st) (F' r n st)) (k : Nat) (l0 : List S58) (l1 : List Int) (wd la : Int) (route : List Int) (len : Int) : ∀ n s st, LeO (rtLoop F k l0 l1 wd la route len n s st) (rtLoop F' (k + 1) l0 l1 wd la route len n s st)
 | 0, _, _ => LeO.refl _
 | n + 1, s, st => by
  simp only [rtLoop]
  refine LeO.bind (impl_between.mono _ _ _ _ _) (fun q => ?_)
  refine LeO.ite (rtLoop_mono hF k l0 l1 wd la route len n (s + 1) st) (LeO.ite (LeO.ite (rtLoop_mono hF k l0 l1 wd la route len n (s + 1) st) (LeO.bind (hF _ _ _) (fun st' => rtLoop_mono hF k l0 l1 wd la route len n (s + 1) st'))) (LeO.refl _))
theorem rtGo_mono (k : Nat) (l0 : List S58) (l1 : List Int) (ta wd : Int) : ∀ d r n st, LeO (rtGo k l0 l1 ta wd d r n st) (rtGo (k + 1) l0 l1 ta wd d r n st)
 | 0, _, _, _ => LeO.refl _
 | d + 1, r, n, st => by
  simp only [rtGo]
  exact LeO.ite (LeO.ite (LeO.refl _) (rtLoop_mono (rtGo_mono k l0 l1 ta wd d) k l0 l1 wd (rtLast r) r n 8 0 st)) (LeO.refl _)
theorem impl_BestRoute.mono : ∀ a0 a1 a2 a3 a4 k, LeO (impl_BestRoute.f k a0 a1 a2 a3 a4) (impl_BestRoute.f (k + 1) a0 a1 a2 a3 a4) := by
 intro a0 a1 a2 a3 a4 k
 unfold impl_BestRoute.f
 refine LeO.bind (impl_areEnds.mono _ _ _ _ _) (fun t => LeO.ite (LeO.bind (LeO.refl _) (fun u => LeO.ite (LeO.bind (rtGo_mono _ _ _ _ _ _ _ _ _) (fun st => LeO.refl _)) (LeO.refl _))) (LeO.refl _))


/-! ### spec_l12Far: function 40 -/
def spec_l12Far.f (a0 : Int) : Option (Bool) := (spec_l1In.f a0 0 200).bind fun t433 => (some t433)
set_option maxHeartbeats 8000000 in
theorem spec_l12Far.calls (a0 : Int) (r : Bool) (w : World) (h : spec_l12Far.f a0 = some r) :
  Calls Try.prog 40 #[.int .i64 a0] w fun e w' => e = .returned (.bool r) ∧ Drawn0 w w' := by
 have H : ((spec_l1In.f a0 0 200).bind fun t433 => (some t433)) = some r := h; clear h; replace H := Option.bind_eq_some_iff.mp H; obtain ⟨t433, A20, H⟩ := H; replace H : (some t433) = some r := H; have A2 := Aside0.mk A20; clear A20; obtain rfl := Option.some.inj H
 go_enter Try.func40, Try.ntmps40
 go_wp2_with (first | ((with_reducible refine gate_callee (f := 69) rfl ?_); refine goesL_ (some 4) rfl rfl Try.func69 (by kernel_rfl) rfl #[.int .i64 a0, .int .i64 0, .int .i64 200] rfl (qR2) ?_; (with_reducible refine (spec_l1In.calls a0 0 200 t433 _ A2.out).mono ?_); rintro e w' ⟨rfl, ⟨nd, rfl⟩⟩; refine ⟨_, rfl, ?_⟩))
 go_ret
 exact ⟨(qR12), (qR26)⟩

/-! ### spec_l4Station: function 68 -/
def spec_l4Station.f (a0 : Int) : Option (Bool) := (spec_l1In.f a0 0 7).bind fun t434 => (some t434)
set_option maxHeartbeats 8000000 in
theorem spec_l4Station.calls (a0 : Int) (r : Bool) (w : World) (h : spec_l4Station.f a0 = some r) :
  Calls Try.prog 68 #[.int .i64 a0] w fun e w' => e = .returned (.bool r) ∧ Drawn0 w w' := by
 have H : ((spec_l1In.f a0 0 7).bind fun t434 => (some t434)) = some r := h; clear h; replace H := Option.bind_eq_some_iff.mp H; obtain ⟨t434, A20, H⟩ := H; replace H : (some t434) = some r := H; have A2 := Aside0.mk A20; clear A20; obtain rfl := Option.some.inj H
 go_enter Try.func68, Try.ntmps68
 go_wp2_with (first | ((with_reducible refine gate_callee (f := 69) rfl ?_); refine goesL_ (some 4) rfl rfl Try.func69 (by kernel_rfl) rfl #[.int .i64 a0, .int .i64 0, .int .i64 7] rfl (qR2) ?_; (with_reducible refine (spec_l1In.calls a0 0 7 t434 _ A2.out).mono ?_); rintro e w' ⟨rfl, ⟨nd, rfl⟩⟩; refine ⟨_, rfl, ?_⟩))
 go_ret
 exact ⟨(qR12), (qR26)⟩

/-! ### spec_l2Bearing: function 98 -/
def spec_l2Bearing.f (a0 : Int) : Option (Bool) := (spec_l1In.f a0 0 359).bind fun t435 => (some t435)
set_option maxHeartbeats 8000000 in
theorem spec_l2Bearing.calls (a0 : Int) (r : Bool) (w : World) (h : spec_l2Bearing.f a0 = some r) :
  Calls Try.prog 98 #[.int .i64 a0] w fun e w' => e = .returned (.bool r) ∧ Drawn0 w w' := by
 have H : ((spec_l1In.f a0 0 359).bind fun t435 => (some t435)) = some r := h; clear h; replace H := Option.bind_eq_some_iff.mp H; obtain ⟨t435, A20, H⟩ := H; replace H : (some t435) = some r := H; have A2 := Aside0.mk A20; clear A20; obtain rfl := Option.some.inj H
 go_enter Try.func98, Try.ntmps98
 go_wp2_with (first | ((with_reducible refine gate_callee (f := 69) rfl ?_); refine goesL_ (some 4) rfl rfl Try.func69 (by kernel_rfl) rfl #[.int .i64 a0, .int .i64 0, .int .i64 359] rfl (qR2) ?_; (with_reducible refine (spec_l1In.calls a0 0 359 t435 _ A2.out).mono ?_); rintro e w' ⟨rfl, ⟨nd, rfl⟩⟩; refine ⟨_, rfl, ?_⟩))
 go_ret
 exact ⟨(qR12), (qR26)⟩

/-! ### spec_l4Leg: function 91 -/
def spec_l4Leg.f (a0_0 : Int) (a0_1 : Int) (a0_2 : Int) (a0_3 : Int) (a0_4 : Int) : Option (Bool) := (spec_l4Station.f a0_0).bind fun t437 => (if t437 = true then ((spec_l4Station.f a0_1).bind fun t438 => (if t438 = true then (if a0_0 = a0_1 then (some false) else ((spec_l1In.f a0_2 1 500).bind fun t439 => (if t439 = true then ((spec_l2Bearing.f a0_3).bind fun t440 => (if t440 = true then ((spec_l1In.f a0_4 (-90) 90).bind fun t441 => (some t441)) else (some false))) else (some false)))) else (some false))) else (some false))
set_option maxHeartbeats 8000000 in
theorem spec_l4Leg.calls (a0_0 : Int) (a0_1 : Int) (a0_2 : Int) (a0_3 : Int) (a0_4 : Int) (r : Bool) (w : World) (h : spec_l4Leg.f a0_0 a0_1 a0_2 a0_3 a0_4 = some r) :
  Calls Try.prog 91 #[.agg #[.int .i64 a0_0, .int .i64 a0_1, .int .i64 a0_2, .int .i64 a0_3, .int .i64 a0_4]] w fun e w' => e = .returned (.bool r) ∧ Below w.heap.size w w' := by
 have hu58 := Try.underlying58; have HB := Aside0.mk (Below.refl w.heap.size w); have H : ((spec_l4Station.f a0_0).bind fun t437 => (if t437 = true then ((spec_l4Station.f a0_1).bind fun t438 => (if t438 = true then (if a0_0 = a0_1 then (some false) else ((spec_l1In.f a0_2 1 500).bind fun t439 => (if t439 = true then ((spec_l2Bearing.f a0_3).bind fun t440 => (if t440 = true then ((spec_l1In.f a0_4 (-90) 90).bind fun t441 => (some t441)) else (some false))) else (some false)))) else (some false))) else (some false))) = some r := h; clear h; replace H := bindA H; obtain ⟨t437, A2, H⟩ := H; (try dsimp only at H)
 by_cases c3 : t437 = true
 ·subst c3; rw [if_pos rfl] at H; replace H := bindA H; obtain ⟨t438, A4, H⟩ := H; (try dsimp only at H)
  by_cases c5 : t438 = true
  ·subst c5; rw [if_pos rfl] at H
   by_cases c6 : a0_0 = a0_1
   ·rw [if_pos c6] at H; have c6b0 : (a0_0 == a0_1) = true := beq_iff_eq.mpr c6; have c6b1 : (a0_0 != a0_1) = false := bne_eq_false_iff_eq.mpr c6; clear c6; obtain rfl := Option.some.inj H
    go_enter Try.func91, Try.ntmps91
    go_wp2_with (first | ((with_reducible refine gate_dst (N := 1) rfl ?_); refine box_event ?hg (N := 1) ?hd (cs := #[.int .i64 a0_0, .int .i64 a0_1, .int .i64 a0_2, .int .i64 a0_3, .int .i64 a0_4]) (t := 58) ?hr ?_; (case hd => rfl); (case hg => rfl); (case hr => exact (qR25)); intro gb436 hg w7 hbox hb; have BK436 := Aside0.mk (hbox); have GW436 := Aside0.mk (qR71); have GE436 := Aside0.mk (qR71); replace HB := Aside0.mk (qR62); clear hb hbox hg; have hcz8_0 : w7.cell? ⟨gb436, 0, none⟩ = some (.int .i64 a0_0) := (blk_cell BK436.out 0).trans rfl; have hcz8_1 : w7.cell? ⟨gb436, 1, none⟩ = some (.int .i64 a0_1) := (blk_cell BK436.out 1).trans rfl; have hcz8_2 : w7.cell? ⟨gb436, 2, none⟩ = some (.int .i64 a0_2) := (blk_cell BK436.out 2).trans rfl; have hcz8_3 : w7.cell? ⟨gb436, 3, none⟩ = some (.int .i64 a0_3) := (blk_cell BK436.out 3).trans rfl; have hcz8_4 : w7.cell? ⟨gb436, 4, none⟩ = some (.int .i64 a0_4) := (blk_cell BK436.out 4).trans rfl; have hfz8_0 := blk_frozen BK436.out 0; have hfz8_1 := blk_frozen BK436.out 1; have hfz8_2 := blk_frozen BK436.out 2; have hfz8_3 := blk_frozen BK436.out 3; have hfz8_4 := blk_frozen BK436.out 4) | ((with_reducible refine gate_callee (f := 68) rfl ?_); refine goesL_ (some 5) rfl rfl Try.func68 (by kernel_rfl) rfl #[.int .i64 a0_0] rfl (qR2) ?_; (with_reducible refine (spec_l4Station.calls a0_0 true _ A2.out).mono ?_); rintro e w' ⟨rfl, ⟨nd, rfl⟩⟩; refine ⟨_, rfl, ?_⟩) | (go_at_call 68; (with_reducible refine (spec_l4Station.calls a0_1 true _ A4.out).mono ?_); rintro e w' ⟨rfl, ⟨nd, rfl⟩⟩))
    go_ret
    exact ⟨(qR10), (qR21 GE436.out)⟩
   ·rw [if_neg c6] at H; have c6b0 : (a0_0 == a0_1) = false := beq_eq_false_iff_ne.mpr c6; have c6b1 : (a0_0 != a0_1) = true := bne_iff_ne.mpr c6; replace H := bindA H; obtain ⟨t439, A9, H⟩ := H; (try dsimp only at H)
    by_cases c10 : t439 = true
    ·subst c10; rw [if_pos rfl] at H; replace H := bindA H; obtain ⟨t440, A11, H⟩ := H; (try dsimp only at H)
     by_cases c12 : t440 = true
     ·subst c12; rw [if_pos rfl] at H; replace H := Option.bind_eq_some_iff.mp H; obtain ⟨t441, A130, H⟩ := H; replace H : (some t441) = some r := H; have A13 := Aside0.mk A130; clear A130; obtain rfl := Option.some.inj H
      go_enter Try.func91, Try.ntmps91
      go_wp2_with (first | ((with_reducible refine gate_dst (N := 1) rfl ?_); refine box_event ?hg (N := 1) ?hd (cs := #[.int .i64 a0_0, .int .i64 a0_1, .int .i64 a0_2, .int .i64 a0_3, .int .i64 a0_4]) (t := 58) ?hr ?_; (case hd => rfl); (case hg => rfl); (case hr => exact (qR25)); intro gb436 hg w14 hbox hb; have BK436 := Aside0.mk (hbox); have GW436 := Aside0.mk (qR71); have GE436 := Aside0.mk (qR71); replace HB := Aside0.mk (qR62); clear hb hbox hg; have hcz15_0 : w14.cell? ⟨gb436, 0, none⟩ = some (.int .i64 a0_0) := (blk_cell BK436.out 0).trans rfl; have hcz15_1 : w14.cell? ⟨gb436, 1, none⟩ = some (.int .i64 a0_1) := (blk_cell BK436.out 1).trans rfl; have hcz15_2 : w14.cell? ⟨gb436, 2, none⟩ = some (.int .i64 a0_2) := (blk_cell BK436.out 2).trans rfl; have hcz15_3 : w14.cell? ⟨gb436, 3, none⟩ = some (.int .i64 a0_3) := (blk_cell BK436.out 3).trans rfl; have hcz15_4 : w14.cell? ⟨gb436, 4, none⟩ = some (.int .i64 a0_4) := (blk_cell BK436.out 4).trans rfl; have hfz15_0 := blk_frozen BK436.out 0; have hfz15_1 := blk_frozen BK436.out 1; have hfz15_2 := blk_frozen BK436.out 2; have hfz15_3 := blk_frozen BK436.out 3; have hfz15_4 := blk_frozen BK436.out 4) | ((with_reducible refine gate_callee (f := 68) rfl ?_); refine goesL_ (some 5) rfl rfl Try.func68 (by kernel_rfl) rfl #[.int .i64 a0_0] rfl (qR2) ?_; (with_reducible refine (spec_l4Station.calls a0_0 true _ A2.out).mono ?_); rintro e w' ⟨rfl, ⟨nd, rfl⟩⟩; refine ⟨_, rfl, ?_⟩) | (go_at_call 68; (with_reducible refine (spec_l4Station.calls a0_1 true _ A4.out).mono ?_); rintro e w' ⟨rfl, ⟨nd, rfl⟩⟩) | (go_at_call 69; (with_reducible refine (spec_l1In.calls a0_2 1 500 true _ A9.out).mono ?_); rintro e w' ⟨rfl, ⟨nd, rfl⟩⟩) | (go_at_call 98; (with_reducible refine (spec_l2Bearing.calls a0_3 true _ A11.out).mono ?_); rintro e w' ⟨rfl, ⟨nd, rfl⟩⟩) | (go_at_call 69; (with_reducible refine (spec_l1In.calls a0_4 (-90) 90 t441 _ A13.out).mono ?_); rintro e w' ⟨rfl, ⟨nd, rfl⟩⟩))
      go_ret
      exact ⟨(qR10), (qR21 GE436.out)⟩
     ·replace c12 := Bool.eq_false_iff.mpr c12; subst c12; rw [if_neg (show ¬ (false = true) by decide)] at H; obtain rfl := Option.some.inj H
      go_enter Try.func91, Try.ntmps91
      go_wp2_with (first | ((with_reducible refine gate_dst (N := 1) rfl ?_); refine box_event ?hg (N := 1) ?hd (cs := #[.int .i64 a0_0, .int .i64 a0_1, .int .i64 a0_2, .int .i64 a0_3, .int .i64 a0_4]) (t := 58) ?hr ?_; (case hd => rfl); (case hg => rfl); (case hr => exact (qR25)); intro gb436 hg w16 hbox hb; have BK436 := Aside0.mk (hbox); have GW436 := Aside0.mk (qR71); have GE436 := Aside0.mk (qR71); replace HB := Aside0.mk (qR62); clear hb hbox hg; have hcz17_0 : w16.cell? ⟨gb436, 0, none⟩ = some (.int .i64 a0_0) := (blk_cell BK436.out 0).trans rfl; have hcz17_1 : w16.cell? ⟨gb436, 1, none⟩ = some (.int .i64 a0_1) := (blk_cell BK436.out 1).trans rfl; have hcz17_2 : w16.cell? ⟨gb436, 2, none⟩ = some (.int .i64 a0_2) := (blk_cell BK436.out 2).trans rfl; have hcz17_3 : w16.cell? ⟨gb436, 3, none⟩ = some (.int .i64 a0_3) := (blk_cell BK436.out 3).trans rfl; have hcz17_4 : w16.cell? ⟨gb436, 4, none⟩ = some (.int .i64 a0_4) := (blk_cell BK436.out 4).trans rfl; have hfz17_0 := blk_frozen BK436.out 0; have hfz17_1 := blk_frozen BK436.out 1; have hfz17_2 := blk_frozen BK436.out 2; have hfz17_3 := blk_frozen BK436.out 3; have hfz17_4 := blk_frozen BK436.out 4) | ((with_reducible refine gate_callee (f := 68) rfl ?_); refine goesL_ (some 5) rfl rfl Try.func68 (by kernel_rfl) rfl #[.int .i64 a0_0] rfl (qR2) ?_; (with_reducible refine (spec_l4Station.calls a0_0 true _ A2.out).mono ?_); rintro e w' ⟨rfl, ⟨nd, rfl⟩⟩; refine ⟨_, rfl, ?_⟩) | (go_at_call 68; (with_reducible refine (spec_l4Station.calls a0_1 true _ A4.out).mono ?_); rintro e w' ⟨rfl, ⟨nd, rfl⟩⟩) | (go_at_call 69; (with_reducible refine (spec_l1In.calls a0_2 1 500 true _ A9.out).mono ?_); rintro e w' ⟨rfl, ⟨nd, rfl⟩⟩) | (go_at_call 98; (with_reducible refine (spec_l2Bearing.calls a0_3 false _ A11.out).mono ?_); rintro e w' ⟨rfl, ⟨nd, rfl⟩⟩))
      go_ret
      exact ⟨(qR10), (qR21 GE436.out)⟩
    ·replace c10 := Bool.eq_false_iff.mpr c10; subst c10; rw [if_neg (show ¬ (false = true) by decide)] at H; obtain rfl := Option.some.inj H
     go_enter Try.func91, Try.ntmps91
     go_wp2_with (first | ((with_reducible refine gate_dst (N := 1) rfl ?_); refine box_event ?hg (N := 1) ?hd (cs := #[.int .i64 a0_0, .int .i64 a0_1, .int .i64 a0_2, .int .i64 a0_3, .int .i64 a0_4]) (t := 58) ?hr ?_; (case hd => rfl); (case hg => rfl); (case hr => exact (qR25)); intro gb436 hg w18 hbox hb; have BK436 := Aside0.mk (hbox); have GW436 := Aside0.mk (qR71); have GE436 := Aside0.mk (qR71); replace HB := Aside0.mk (qR62); clear hb hbox hg; have hcz19_0 : w18.cell? ⟨gb436, 0, none⟩ = some (.int .i64 a0_0) := (blk_cell BK436.out 0).trans rfl; have hcz19_1 : w18.cell? ⟨gb436, 1, none⟩ = some (.int .i64 a0_1) := (blk_cell BK436.out 1).trans rfl; have hcz19_2 : w18.cell? ⟨gb436, 2, none⟩ = some (.int .i64 a0_2) := (blk_cell BK436.out 2).trans rfl; have hcz19_3 : w18.cell? ⟨gb436, 3, none⟩ = some (.int .i64 a0_3) := (blk_cell BK436.out 3).trans rfl; have hcz19_4 : w18.cell? ⟨gb436, 4, none⟩ = some (.int .i64 a0_4) := (blk_cell BK436.out 4).trans rfl; have hfz19_0 := blk_frozen BK436.out 0; have hfz19_1 := blk_frozen BK436.out 1; have hfz19_2 := blk_frozen BK436.out 2; have hfz19_3 := blk_frozen BK436.out 3; have hfz19_4 := blk_frozen BK436.out 4) | ((with_reducible refine gate_callee (f := 68) rfl ?_); refine goesL_ (some 5) rfl rfl Try.func68 (by kernel_rfl) rfl #[.int .i64 a0_0] rfl (qR2) ?_; (with_reducible refine (spec_l4Station.calls a0_0 true _ A2.out).mono ?_); rintro e w' ⟨rfl, ⟨nd, rfl⟩⟩; refine ⟨_, rfl, ?_⟩) | (go_at_call 68; (with_reducible refine (spec_l4Station.calls a0_1 true _ A4.out).mono ?_); rintro e w' ⟨rfl, ⟨nd, rfl⟩⟩) | (go_at_call 69; (with_reducible refine (spec_l1In.calls a0_2 1 500 false _ A9.out).mono ?_); rintro e w' ⟨rfl, ⟨nd, rfl⟩⟩))
     go_ret
     exact ⟨(qR10), (qR21 GE436.out)⟩
  ·replace c5 := Bool.eq_false_iff.mpr c5; subst c5; rw [if_neg (show ¬ (false = true) by decide)] at H; obtain rfl := Option.some.inj H
   go_enter Try.func91, Try.ntmps91
   go_wp2_with (first | ((with_reducible refine gate_dst (N := 1) rfl ?_); refine box_event ?hg (N := 1) ?hd (cs := #[.int .i64 a0_0, .int .i64 a0_1, .int .i64 a0_2, .int .i64 a0_3, .int .i64 a0_4]) (t := 58) ?hr ?_; (case hd => rfl); (case hg => rfl); (case hr => exact (qR25)); intro gb436 hg w20 hbox hb; have BK436 := Aside0.mk (hbox); have GW436 := Aside0.mk (qR71); have GE436 := Aside0.mk (qR71); replace HB := Aside0.mk (qR62); clear hb hbox hg; have hcz21_0 : w20.cell? ⟨gb436, 0, none⟩ = some (.int .i64 a0_0) := (blk_cell BK436.out 0).trans rfl; have hcz21_1 : w20.cell? ⟨gb436, 1, none⟩ = some (.int .i64 a0_1) := (blk_cell BK436.out 1).trans rfl; have hcz21_2 : w20.cell? ⟨gb436, 2, none⟩ = some (.int .i64 a0_2) := (blk_cell BK436.out 2).trans rfl; have hcz21_3 : w20.cell? ⟨gb436, 3, none⟩ = some (.int .i64 a0_3) := (blk_cell BK436.out 3).trans rfl; have hcz21_4 : w20.cell? ⟨gb436, 4, none⟩ = some (.int .i64 a0_4) := (blk_cell BK436.out 4).trans rfl; have hfz21_0 := blk_frozen BK436.out 0; have hfz21_1 := blk_frozen BK436.out 1; have hfz21_2 := blk_frozen BK436.out 2; have hfz21_3 := blk_frozen BK436.out 3; have hfz21_4 := blk_frozen BK436.out 4) | ((with_reducible refine gate_callee (f := 68) rfl ?_); refine goesL_ (some 5) rfl rfl Try.func68 (by kernel_rfl) rfl #[.int .i64 a0_0] rfl (qR2) ?_; (with_reducible refine (spec_l4Station.calls a0_0 true _ A2.out).mono ?_); rintro e w' ⟨rfl, ⟨nd, rfl⟩⟩; refine ⟨_, rfl, ?_⟩) | (go_at_call 68; (with_reducible refine (spec_l4Station.calls a0_1 false _ A4.out).mono ?_); rintro e w' ⟨rfl, ⟨nd, rfl⟩⟩))
   go_ret
   exact ⟨(qR10), (qR21 GE436.out)⟩
 ·replace c3 := Bool.eq_false_iff.mpr c3; subst c3; rw [if_neg (show ¬ (false = true) by decide)] at H; obtain rfl := Option.some.inj H
  go_enter Try.func91, Try.ntmps91
  go_wp2_with (first | ((with_reducible refine gate_dst (N := 1) rfl ?_); refine box_event ?hg (N := 1) ?hd (cs := #[.int .i64 a0_0, .int .i64 a0_1, .int .i64 a0_2, .int .i64 a0_3, .int .i64 a0_4]) (t := 58) ?hr ?_; (case hd => rfl); (case hg => rfl); (case hr => exact (qR25)); intro gb436 hg w22 hbox hb; have BK436 := Aside0.mk (hbox); have GW436 := Aside0.mk (qR71); have GE436 := Aside0.mk (qR71); replace HB := Aside0.mk (qR62); clear hb hbox hg; have hcz23_0 : w22.cell? ⟨gb436, 0, none⟩ = some (.int .i64 a0_0) := (blk_cell BK436.out 0).trans rfl; have hcz23_1 : w22.cell? ⟨gb436, 1, none⟩ = some (.int .i64 a0_1) := (blk_cell BK436.out 1).trans rfl; have hcz23_2 : w22.cell? ⟨gb436, 2, none⟩ = some (.int .i64 a0_2) := (blk_cell BK436.out 2).trans rfl; have hcz23_3 : w22.cell? ⟨gb436, 3, none⟩ = some (.int .i64 a0_3) := (blk_cell BK436.out 3).trans rfl; have hcz23_4 : w22.cell? ⟨gb436, 4, none⟩ = some (.int .i64 a0_4) := (blk_cell BK436.out 4).trans rfl; have hfz23_0 := blk_frozen BK436.out 0; have hfz23_1 := blk_frozen BK436.out 1; have hfz23_2 := blk_frozen BK436.out 2; have hfz23_3 := blk_frozen BK436.out 3; have hfz23_4 := blk_frozen BK436.out 4) | ((with_reducible refine gate_callee (f := 68) rfl ?_); refine goesL_ (some 5) rfl rfl Try.func68 (by kernel_rfl) rfl #[.int .i64 a0_0] rfl (qR2) ?_; (with_reducible refine (spec_l4Station.calls a0_0 false _ A2.out).mono ?_); rintro e w' ⟨rfl, ⟨nd, rfl⟩⟩; refine ⟨_, rfl, ?_⟩))
  go_ret
  exact ⟨(qR10), (qR21 GE436.out)⟩

/-! ### spec_l4Legs: function 75 -/
def spec_l4Legs.l0 : Nat → List (S58) → Int → Option (Bool)
 | 0, _, _ => none
 | k + 1, x0, x3 => if x3 < (x0.length : Int) then (if 0 ≤ x3 then ((spec_l4Leg.f ((rd_T58 x0 x3).f0) ((rd_T58 x0 x3).f1) ((rd_T58 x0 x3).f2) ((rd_T58 x0 x3).f3) ((rd_T58 x0 x3).f4)).bind fun t443 => (if t443 = true then (spec_l4Legs.l0 k x0 (wrap64 (x3 + 1))) else (some false))) else (none)) else (some (decide ((x0.length : Int) ≤ 12)))
def spec_l4Legs.f (k : Nat) (l0 : List (S58)) : Option (Bool) := spec_l4Legs.l0 k l0 0
theorem spec_l4Legs.mono_l : ∀ k, (∀ y0 y1, LeO (spec_l4Legs.l0 k y0 y1) (spec_l4Legs.l0 (k + 1) y0 y1))
 | 0 => fun _ _ r h => by simp [spec_l4Legs.l0] at h
 | k + 1 => by
  have ih0 := spec_l4Legs.mono_l k
  ·intro y0 y1
   unfold spec_l4Legs.l0
   exact qmono
theorem spec_l4Legs.mono : ∀ a0 k, LeO (spec_l4Legs.f k a0) (spec_l4Legs.f (k + 1) a0) := by
 intro a0 k; have ih0 := spec_l4Legs.mono_l k
 unfold spec_l4Legs.f
 exact qmono
set_option maxHeartbeats 8000000 in
theorem spec_l4Legs.calls (k : Nat) (A0 : Option Addr) (c0 : Nat) (l0 : List (S58)) (r : Bool) (w : World) (hr0 : Kd.C k58 w A0 l0.length l0) (hc0 : l0.length ≤ c0) (h : spec_l4Legs.f k l0 = some r) :
  Calls Try.prog 75 #[.slice A0 l0.length c0] w fun e w' => e = .returned (.bool r) ∧ Below w.heap.size w w' := by
 have hu58 := Try.underlying58; have HR0 := Aside0.mk hr0; have HC0 := Aside0.mk hc0; clear hr0 hc0; have HB := Aside0.mk (Below.refl w.heap.size w); have H : (spec_l4Legs.l0 k l0 0) = some r := h; clear h; have H' := Aside0.mk H; clear H
 go_enter Try.func75, Try.ntmps75
 go_wp2
 go_loopg [3] k (fun kq v3 w' => ∃ (x3_1 : Int), v3 = .int .i64 x3_1 ∧ Aside0 (spec_l4Legs.l0 kq l0 x3_1 = some r) ∧ Aside0 (kq ≤ k) ∧ Aside0 (Below w.heap.size w w'))
 case atStart => exact ⟨(0), (qR12), H', ⟨Nat.le_refl _⟩, ⟨(qR0)⟩⟩
 case round =>
  clear H'; obtain ⟨x3_1, rfl, HA, HK1, HB⟩ := hrel
  cases gk with
  | zero => exact absurd HA.out (by simp [spec_l4Legs.l0])
  | succ k1 =>
   have H := HA.out; clear HA; simp only [spec_l4Legs.l0] at H
   by_cases c2 : x3_1 < (l0.length : Int)
   ·rw [if_pos c2] at H; have c2b0 : decide (x3_1 < (l0.length : Int)) = true := decide_eq_true c2; clear c2
    by_cases c3 : 0 ≤ x3_1
    ·rw [if_pos c3] at H; have c3b0 : decide (0 ≤ x3_1) = true := decide_eq_true c3; clear c3; replace H := bindA H; obtain ⟨t443, A4, H⟩ := H; (try dsimp only at H)
     by_cases c5 : t443 = true
     ·subst c5; rw [if_pos rfl] at H; have H' := Aside0.mk H; clear H; have p442 : 0 ≤ (x3_1 : Int) := of_decide_eq_true (qR8); have q442 : x3_1 < (l0.length : Int) := of_decide_eq_true (qR8); obtain ⟨ad442, e442, hx442_0, hx442_1, hx442_2, hx442_3, hx442_4⟩ := at_T58 HR0.out x3_1 p442 q442; cases e442; replace hx442_0 := (HB.out.cell (World.block_lt_of_cell? w _ hx442_0)).trans hx442_0; replace hx442_1 := (HB.out.cell (World.block_lt_of_cell? w _ hx442_1)).trans hx442_1; replace hx442_2 := (HB.out.cell (World.block_lt_of_cell? w _ hx442_2)).trans hx442_2; replace hx442_3 := (HB.out.cell (World.block_lt_of_cell? w _ hx442_3)).trans hx442_3; replace hx442_4 := (HB.out.cell (World.block_lt_of_cell? w _ hx442_4)).trans hx442_4; replace p442 := eq_true p442; replace q442 := eq_true q442
      go_wp2_with (first | ((with_reducible refine gate_callee (f := 91) rfl ?_); refine goesL_ (some 14) rfl rfl Try.func91 (by kernel_rfl) rfl #[.agg #[.int .i64 ((rd_T58 l0 x3_1).f0), .int .i64 ((rd_T58 l0 x3_1).f1), .int .i64 ((rd_T58 l0 x3_1).f2), .int .i64 ((rd_T58 l0 x3_1).f3), .int .i64 ((rd_T58 l0 x3_1).f4)]] rfl (qR2) ?_; (with_reducible refine (spec_l4Leg.calls ((rd_T58 l0 x3_1).f0) ((rd_T58 l0 x3_1).f1) ((rd_T58 l0 x3_1).f2) ((rd_T58 l0 x3_1).f3) ((rd_T58 l0 x3_1).f4) true _ A4.out).mono ?_); rintro e w6 ⟨rfl, hb⟩; refine ⟨_, rfl, ?_⟩; replace HB := Aside0.mk (qR62); clear hb))
      go_roundg k1
      case measure => have := HK1.out; omega
      case rel => exact ⟨(wrap64 (x3_1 + 1)), (qR12), H', ⟨by have := HK1.out; omega⟩, ⟨(qR0)⟩⟩
     ·replace c5 := Bool.eq_false_iff.mpr c5; subst c5; rw [if_neg (show ¬ (false = true) by decide)] at H; obtain rfl := Option.some.inj H; have p442 : 0 ≤ (x3_1 : Int) := of_decide_eq_true (qR8); have q442 : x3_1 < (l0.length : Int) := of_decide_eq_true (qR8); obtain ⟨ad442, e442, hx442_0, hx442_1, hx442_2, hx442_3, hx442_4⟩ := at_T58 HR0.out x3_1 p442 q442; cases e442; replace hx442_0 := (HB.out.cell (World.block_lt_of_cell? w _ hx442_0)).trans hx442_0; replace hx442_1 := (HB.out.cell (World.block_lt_of_cell? w _ hx442_1)).trans hx442_1; replace hx442_2 := (HB.out.cell (World.block_lt_of_cell? w _ hx442_2)).trans hx442_2; replace hx442_3 := (HB.out.cell (World.block_lt_of_cell? w _ hx442_3)).trans hx442_3; replace hx442_4 := (HB.out.cell (World.block_lt_of_cell? w _ hx442_4)).trans hx442_4; replace p442 := eq_true p442; replace q442 := eq_true q442
      go_wp2_with (first | ((with_reducible refine gate_callee (f := 91) rfl ?_); refine goesL_ (some 14) rfl rfl Try.func91 (by kernel_rfl) rfl #[.agg #[.int .i64 ((rd_T58 l0 x3_1).f0), .int .i64 ((rd_T58 l0 x3_1).f1), .int .i64 ((rd_T58 l0 x3_1).f2), .int .i64 ((rd_T58 l0 x3_1).f3), .int .i64 ((rd_T58 l0 x3_1).f4)]] rfl (qR2) ?_; (with_reducible refine (spec_l4Leg.calls ((rd_T58 l0 x3_1).f0) ((rd_T58 l0 x3_1).f1) ((rd_T58 l0 x3_1).f2) ((rd_T58 l0 x3_1).f3) ((rd_T58 l0 x3_1).f4) false _ A4.out).mono ?_); rintro e w7 ⟨rfl, hb⟩; refine ⟨_, rfl, ?_⟩; replace HB := Aside0.mk (qR62); clear hb))
      go_ret
      exact ⟨(qR10), (qR0)⟩
    ·rw [if_neg c3] at H
     exact absurd H (by simp)
   ·rw [if_neg c2] at H; have c2b0 : decide (x3_1 < (l0.length : Int)) = false := decide_eq_false c2; clear c2; obtain rfl := Option.some.inj H
    go_wp2
    go_ret
    exact ⟨(qR10), (qR0)⟩

/-! ### spec_l15Good: function 45 -/
def spec_l15Good.l0 : Nat → List (S58) → List Int → Int → Option (Bool)
 | 0, _, _, _ => none
 | k + 1, x0, x1, x5 => if x5 < (x1.length : Int) then (if 0 ≤ x5 then ((spec_l12Far.f (rd x1 x5)).bind fun t445 => (if t445 = true then (spec_l15Good.l0 k x0 x1 (wrap64 (x5 + 1))) else (some false))) else (none)) else ((spec_l4Legs.f k x0).bind fun t446 => (if t446 = true then (some ((x1.length : Int) == (x0.length : Int))) else (some false)))
def spec_l15Good.f (k : Nat) (l0 : List (S58)) (l1 : List Int) : Option (Bool) := spec_l15Good.l0 k l0 l1 0
theorem spec_l15Good.mono_l : ∀ k, (∀ y0 y1 y2, LeO (spec_l15Good.l0 k y0 y1 y2) (spec_l15Good.l0 (k + 1) y0 y1 y2))
 | 0 => fun _ _ _ r h => by simp [spec_l15Good.l0] at h
 | k + 1 => by
  have ih0 := spec_l15Good.mono_l k
  ·intro y0 y1 y2
   unfold spec_l15Good.l0
   have m0 := @spec_l4Legs.mono
   exact qmono
theorem spec_l15Good.mono : ∀ a0 a1 k, LeO (spec_l15Good.f k a0 a1) (spec_l15Good.f (k + 1) a0 a1) := by
 intro a0 a1 k; have ih0 := spec_l15Good.mono_l k
 unfold spec_l15Good.f
 have m0 := @spec_l4Legs.mono
 exact qmono
set_option maxHeartbeats 8000000 in
theorem spec_l15Good.calls (k : Nat) (A0 : Option Addr) (c0 : Nat) (l0 : List (S58)) (A1 : Option Addr) (c1 : Nat) (l1 : List Int) (r : Bool) (w : World) (hr0 : Kd.C k58 w A0 l0.length l0) (hc0 : l0.length ≤ c0) (hr1 : Kd.C (Kd.int .i64) w A1 l1.length l1) (hc1 : l1.length ≤ c1) (h : spec_l15Good.f k l0 l1 = some r) :
  Calls Try.prog 45 #[.slice A0 l0.length c0, .slice A1 l1.length c1] w fun e w' => e = .returned (.bool r) ∧ Below w.heap.size w w' := by
 have HR0 := Aside0.mk hr0; have HC0 := Aside0.mk hc0; clear hr0 hc0; have HR1 := Aside0.mk hr1; have HC1 := Aside0.mk hc1; clear hr1 hc1; have HB := Aside0.mk (Below.refl w.heap.size w); have H : (spec_l15Good.l0 k l0 l1 0) = some r := h; clear h; have H' := Aside0.mk H; clear H
 go_enter Try.func45, Try.ntmps45
 go_wp2
 go_loopg [5] k (fun kq v5 w' => ∃ (x5_1 : Int), v5 = .int .i64 x5_1 ∧ Aside0 (spec_l15Good.l0 kq l0 l1 x5_1 = some r) ∧ Aside0 (kq ≤ k) ∧ Aside0 (Below w.heap.size w w'))
 case atStart => exact ⟨(0), (qR12), H', ⟨Nat.le_refl _⟩, ⟨(qR0)⟩⟩
 case round =>
  clear H'; (try clear c1); (try clear p2); obtain ⟨x5_1, rfl, HA, HK1, HB⟩ := hrel
  cases gk with
  | zero => exact absurd HA.out (by simp [spec_l15Good.l0])
  | succ k1 =>
   have H := HA.out; clear HA; simp only [spec_l15Good.l0] at H
   by_cases c3 : x5_1 < (l1.length : Int)
   ·rw [if_pos c3] at H; have c3b0 : decide (x5_1 < (l1.length : Int)) = true := decide_eq_true c3; clear c3
    by_cases c4 : 0 ≤ x5_1
    ·rw [if_pos c4] at H; have c4b0 : decide (0 ≤ x5_1) = true := decide_eq_true c4; clear c4; replace H := bindA H; obtain ⟨t445, A5, H⟩ := H; (try dsimp only at H)
     by_cases c6 : t445 = true
     ·subst c6; rw [if_pos rfl] at H; have H' := Aside0.mk H; clear H; have p444 : 0 ≤ (x5_1 : Int) := of_decide_eq_true (qR8); have q444 : x5_1 < (l1.length : Int) := of_decide_eq_true (qR8); obtain ⟨ad444, e444, hx444_0⟩ := Kd.at_int HR1.out x5_1 p444 q444; cases e444; replace hx444_0 := (HB.out.cell (World.block_lt_of_cell? w _ hx444_0)).trans hx444_0; replace p444 := eq_true p444; replace q444 := eq_true q444
      go_wp2_with (first | ((with_reducible refine gate_callee (f := 40) rfl ?_); refine goesL_ (some 16) rfl rfl Try.func40 (by kernel_rfl) rfl #[.int .i64 (rd l1 x5_1)] rfl (qR2) ?_; (with_reducible refine (spec_l12Far.calls (rd l1 x5_1) true _ A5.out).mono ?_); rintro e w' ⟨rfl, ⟨nd, rfl⟩⟩; refine ⟨_, rfl, ?_⟩))
      go_roundg k1
      case measure => have := HK1.out; omega
      case rel => exact ⟨(wrap64 (x5_1 + 1)), (qR12), H', ⟨by have := HK1.out; omega⟩, ⟨(qR0)⟩⟩
     ·replace c6 := Bool.eq_false_iff.mpr c6; subst c6; rw [if_neg (show ¬ (false = true) by decide)] at H; obtain rfl := Option.some.inj H; have p444 : 0 ≤ (x5_1 : Int) := of_decide_eq_true (qR8); have q444 : x5_1 < (l1.length : Int) := of_decide_eq_true (qR8); obtain ⟨ad444, e444, hx444_0⟩ := Kd.at_int HR1.out x5_1 p444 q444; cases e444; replace hx444_0 := (HB.out.cell (World.block_lt_of_cell? w _ hx444_0)).trans hx444_0; replace p444 := eq_true p444; replace q444 := eq_true q444
      go_wp2_with (first | ((with_reducible refine gate_callee (f := 40) rfl ?_); refine goesL_ (some 16) rfl rfl Try.func40 (by kernel_rfl) rfl #[.int .i64 (rd l1 x5_1)] rfl (qR2) ?_; (with_reducible refine (spec_l12Far.calls (rd l1 x5_1) false _ A5.out).mono ?_); rintro e w' ⟨rfl, ⟨nd, rfl⟩⟩; refine ⟨_, rfl, ?_⟩))
      go_ret
      exact ⟨(qR10), (qR0)⟩
    ·rw [if_neg c4] at H
     exact absurd H (by simp)
   ·rw [if_neg c3] at H; have c3b0 : decide (x5_1 < (l1.length : Int)) = false := decide_eq_false c3; clear c3; replace H := bindA H; obtain ⟨t446, A7, H⟩ := H; (try dsimp only at H)
    by_cases c8 : t446 = true
    ·subst c8; rw [if_pos rfl] at H; obtain rfl := Option.some.inj H
     go_wp2_with (first | ((with_reducible refine gate_callee (f := 75) rfl ?_); refine goesL_ (some 19) rfl rfl Try.func75 (by kernel_rfl) rfl #[.slice A0 l0.length c0] rfl (qR2) ?_; (with_reducible refine (spec_l4Legs.calls k1 _ _ l0 true _ ?s1 ?s2 A7.out).mono ?_); (case s1 => exact (qR14 HR0.out)); (case s2 => exact HC0.out); rintro e w9 ⟨rfl, hb⟩; refine ⟨_, rfl, ?_⟩; replace HB := Aside0.mk (qR62); clear hb))
     go_ret
     exact ⟨(qR10), (qR0)⟩
    ·replace c8 := Bool.eq_false_iff.mpr c8; subst c8; rw [if_neg (show ¬ (false = true) by decide)] at H; obtain rfl := Option.some.inj H
     go_wp2_with (first | ((with_reducible refine gate_callee (f := 75) rfl ?_); refine goesL_ (some 19) rfl rfl Try.func75 (by kernel_rfl) rfl #[.slice A0 l0.length c0] rfl (qR2) ?_; (with_reducible refine (spec_l4Legs.calls k1 _ _ l0 false _ ?s1 ?s2 A7.out).mono ?_); (case s1 => exact (qR14 HR0.out)); (case s2 => exact HC0.out); rintro e w10 ⟨rfl, hb⟩; refine ⟨_, rfl, ?_⟩; replace HB := Aside0.mk (qR62); clear hb))
     go_ret
     exact ⟨(qR10), (qR0)⟩

/-! ### spec_l15Asked: function 39 -/
def spec_l15Asked.f (k : Nat) (l0 : List (S58)) (l1 : List Int) (a2 : Int) (a3 : Int) : Option (Bool) := (spec_l15Good.f k l0 l1).bind fun t447 => (if t447 = true then ((spec_l4Station.f a2).bind fun t448 => (if t448 = true then ((spec_l4Station.f a3).bind fun t449 => (some t449)) else (some false))) else (some false))
theorem spec_l15Asked.mono : ∀ a0 a1 a2 a3 k, LeO (spec_l15Asked.f k a0 a1 a2 a3) (spec_l15Asked.f (k + 1) a0 a1 a2 a3) := by
 intro a0 a1 a2 a3 k
 unfold spec_l15Asked.f
 have m0 := @spec_l15Good.mono
 exact qmono
set_option maxHeartbeats 8000000 in
theorem spec_l15Asked.calls (k : Nat) (A0 : Option Addr) (c0 : Nat) (l0 : List (S58)) (A1 : Option Addr) (c1 : Nat) (l1 : List Int) (a2 : Int) (a3 : Int) (r : Bool) (w : World) (hr0 : Kd.C k58 w A0 l0.length l0) (hc0 : l0.length ≤ c0) (hr1 : Kd.C (Kd.int .i64) w A1 l1.length l1) (hc1 : l1.length ≤ c1) (h : spec_l15Asked.f k l0 l1 a2 a3 = some r) :
  Calls Try.prog 39 #[.slice A0 l0.length c0, .slice A1 l1.length c1, .int .i64 a2, .int .i64 a3] w fun e w' => e = .returned (.bool r) ∧ Below w.heap.size w w' := by
 have HR0 := Aside0.mk hr0; have HC0 := Aside0.mk hc0; clear hr0 hc0; have HR1 := Aside0.mk hr1; have HC1 := Aside0.mk hc1; clear hr1 hc1; have HB := Aside0.mk (Below.refl w.heap.size w); have H : ((spec_l15Good.f k l0 l1).bind fun t447 => (if t447 = true then ((spec_l4Station.f a2).bind fun t448 => (if t448 = true then ((spec_l4Station.f a3).bind fun t449 => (some t449)) else (some false))) else (some false))) = some r := h; clear h; replace H := bindA H; obtain ⟨t447, A5, H⟩ := H; (try dsimp only at H)
 by_cases c6 : t447 = true
 ·subst c6; rw [if_pos rfl] at H; replace H := bindA H; obtain ⟨t448, A7, H⟩ := H; (try dsimp only at H)
  by_cases c8 : t448 = true
  ·subst c8; rw [if_pos rfl] at H; replace H := Option.bind_eq_some_iff.mp H; obtain ⟨t449, A90, H⟩ := H; replace H : (some t449) = some r := H; have A9 := Aside0.mk A90; clear A90; obtain rfl := Option.some.inj H
   go_enter Try.func39, Try.ntmps39
   go_wp2_with (first | ((with_reducible refine gate_callee (f := 45) rfl ?_); refine goesL_ (some 11) rfl rfl Try.func45 (by kernel_rfl) rfl #[.slice A0 l0.length c0, .slice A1 l1.length c1] rfl (qR2) ?_; (with_reducible refine (spec_l15Good.calls k _ _ l0 _ _ l1 true _ ?s1 ?s2 ?s3 ?s4 A5.out).mono ?_); (case s1 => exact (qR11 HR0.out)); (case s2 => exact HC0.out); (case s3 => exact (qR11 HR1.out)); (case s4 => exact HC1.out); rintro e w10 ⟨rfl, hb⟩; refine ⟨_, rfl, ?_⟩; replace HB := Aside0.mk (qR62); clear hb) | (go_at_call 68; (with_reducible refine (spec_l4Station.calls a2 true _ A7.out).mono ?_); rintro e w' ⟨rfl, ⟨nd, rfl⟩⟩) | (go_at_call 68; (with_reducible refine (spec_l4Station.calls a3 t449 _ A9.out).mono ?_); rintro e w' ⟨rfl, ⟨nd, rfl⟩⟩))
   go_ret
   exact ⟨(qR10), (qR0)⟩
  ·replace c8 := Bool.eq_false_iff.mpr c8; subst c8; rw [if_neg (show ¬ (false = true) by decide)] at H; obtain rfl := Option.some.inj H
   go_enter Try.func39, Try.ntmps39
   go_wp2_with (first | ((with_reducible refine gate_callee (f := 45) rfl ?_); refine goesL_ (some 11) rfl rfl Try.func45 (by kernel_rfl) rfl #[.slice A0 l0.length c0, .slice A1 l1.length c1] rfl (qR2) ?_; (with_reducible refine (spec_l15Good.calls k _ _ l0 _ _ l1 true _ ?s1 ?s2 ?s3 ?s4 A5.out).mono ?_); (case s1 => exact (qR11 HR0.out)); (case s2 => exact HC0.out); (case s3 => exact (qR11 HR1.out)); (case s4 => exact HC1.out); rintro e w11 ⟨rfl, hb⟩; refine ⟨_, rfl, ?_⟩; replace HB := Aside0.mk (qR62); clear hb) | (go_at_call 68; (with_reducible refine (spec_l4Station.calls a2 false _ A7.out).mono ?_); rintro e w' ⟨rfl, ⟨nd, rfl⟩⟩))
   go_ret
   exact ⟨(qR10), (qR0)⟩
 ·replace c6 := Bool.eq_false_iff.mpr c6; subst c6; rw [if_neg (show ¬ (false = true) by decide)] at H; obtain rfl := Option.some.inj H
  go_enter Try.func39, Try.ntmps39
  go_wp2_with (first | ((with_reducible refine gate_callee (f := 45) rfl ?_); refine goesL_ (some 11) rfl rfl Try.func45 (by kernel_rfl) rfl #[.slice A0 l0.length c0, .slice A1 l1.length c1] rfl (qR2) ?_; (with_reducible refine (spec_l15Good.calls k _ _ l0 _ _ l1 false _ ?s1 ?s2 ?s3 ?s4 A5.out).mono ?_); (case s1 => exact (qR11 HR0.out)); (case s2 => exact HC0.out); (case s3 => exact (qR11 HR1.out)); (case s4 => exact HC1.out); rintro e w12 ⟨rfl, hb⟩; refine ⟨_, rfl, ?_⟩; replace HB := Aside0.mk (qR62); clear hb))
  go_ret
  exact ⟨(qR10), (qR0)⟩

end Go.Proofs.Ytoljdjgndogegaa.MR
