/- The cursor of the draws: its calls come to an end, and what they give back lies within bounds. -/
import Derived.Test.YtmbpdegkkdcjnaaDoorMWx2
import Derived.Test.YtmbpdegkkdcjnaaDoorPBase
namespace Go.Proofs.YtmbpdegkkdcjnaaDoor.Pure
open Go.RowKit Go.Proofs.YtmbpdegkkdcjnaaDoor.MW Go.Proofs.YtmbpdegkkdcjnaaDoorW.PrintWords Go.Proofs.YtmbpdegkkdcjnaaDoorW.PrintLast Go.Proofs.YtmbpdegkkdcjnaaDoorW.PrintMore
set_option linter.unusedVariables false
set_option linter.unusedSimpArgs false
def Bytes (l : List Int) : Prop := ∀ x ∈ l, 0 ≤ x ∧ x ≤ 255
theorem bytes_of {l : List Int} (h : ∀ x ∈ l, (Lit.int .u8 x).wf = true) : Bytes l := fun x hx => by
 have := h x hx
 simp [Lit.wf, IntKind.min, IntKind.max, IntKind.signed, IntKind.bits] at this
 omega
theorem wrap_u64 (x : Int) : 0 ≤ IntKind.u64.wrap x ∧ IntKind.u64.wrap x < 18446744073709551616 := by
 have h : IntKind.u64.wrap x = x % 18446744073709551616 := by
  simp [IntKind.wrap, IntKind.signed, IntKind.bits]
 rw [h]
 omega
theorem bits_255 (x : Int) : 0 ≤ Go.bits .and .u64 x 255 ∧ Go.bits .and .u64 x 255 ≤ 255 := by
 have h : ((BitVec.ofInt 64 x) &&& (BitVec.ofInt 64 255)).toNat ≤ 255 := by
  rw [BitVec.toNat_and]
  exact Nat.le_trans Nat.and_le_right (by decide)
 have e : Go.bits .and .u64 x 255 = IntKind.u64.wrap (((BitVec.ofInt 64 x) &&& (BitVec.ofInt 64 255)).toNat : Int) := rfl
 have hw : ∀ y : Int, IntKind.u64.wrap y = y % 18446744073709551616 := fun y => by simp [IntKind.wrap, IntKind.signed, IntKind.bits]
 rw [e, hw]
 omega
theorem cur_next {l : List Int} (hb : Bytes l) {i s : Int} (h0 : 0 ≤ i) (h1 : i ≤ 1000000000) : ∃ v t, spec_l1Cur_next.f l i s = some (v, i + 1, t) ∧ 0 ≤ v ∧ v ≤ 255 := by
 have hw : wrap64 (i + 1) = i + 1 := wrap_id (by omega) (by omega)
 have hv : i < l.length → 0 ≤ wrap64 (rd l i) ∧ wrap64 (rd l i) ≤ 255 := fun h => by
  have hi : i.toNat < l.length := by omega
  have h2 := hb _ (List.getElem_mem hi)
  have h3 : rd l i = l[i.toNat] := by simp only [rd]; exact getD_lt l 0 i.toNat hi
  rw [h3, wrap_id (by omega) (by omega)]
  exact h2
 have hc : ∀ x : Int, 0 ≤ wrap64 (Go.bits .and .u64 x 255) ∧ wrap64 (Go.bits .and .u64 x 255) ≤ 255 := fun x => by
  have := bits_255 x
  rw [wrap_id (by omega) (by omega)]
  exact this
 unfold spec_l1Cur_next.f
 simp only [hw]
 by_cases ha : i < l.length
 ·rw [if_pos ha, if_pos h0, if_pos (by omega)]
  exact ⟨_, _, rfl, hv ha⟩
 ·rw [if_neg ha, if_neg (by omega)]
  exact ⟨_, _, rfl, hc _⟩
theorem cur_pick {l : List Int} (hb : Bytes l) {i s n : Int} (h0 : 0 ≤ i) (h1 : i ≤ 999999990) (hn : n ≤ 1000000) : ∃ v j t, spec_l1Cur_pick.f l i s n = some (v, j, t) ∧ i ≤ j ∧ j ≤ i + 2 ∧ 0 ≤ v ∧ (v < n ∨ v = 0) := by
 unfold spec_l1Cur_pick.f
 by_cases c : n ≤ 1
 ·rw [if_pos c]
  exact ⟨_, _, _, rfl, by omega, by omega, by omega, .inr rfl⟩
 ·rw [if_neg c]
  obtain ⟨v, t, e, g0, g1⟩ := cur_next (s := s) hb h0 (by omega)
  rw [e]
  simp only [Option.bind_some]
  by_cases c2 : n > 200
  ·rw [if_pos c2]
   obtain ⟨u, t2, e2, g2, g3⟩ := cur_next (i := i + 1) (s := t) hb (by omega) (by omega)
   rw [e2]
   simp only [Option.bind_some]
   rw [if_neg (by omega)]
   have h1 : wrap64 (v * 256) = v * 256 := wrap_id (by omega) (by omega)
   have h2 : wrap64 (v * 256 + u) = v * 256 + u := wrap_id (by omega) (by omega)
   rw [h1, h2]
   exact ⟨_, _, _, rfl, by omega, by omega, Int.tmod_nonneg _ (by omega), .inl (Int.tmod_lt_of_pos _ (by omega))⟩
  ·rw [if_neg c2, if_neg (by omega)]
   exact ⟨_, _, _, rfl, by omega, by omega, Int.tmod_nonneg _ (by omega), .inl (Int.tmod_lt_of_pos _ (by omega))⟩
theorem cur_among {l : List Int} (hb : Bytes l) {i s : Int} (xs : List Int) (h0 : 0 ≤ i) (h1 : i ≤ 999999990) (hx : 0 < xs.length) (hx2 : xs.length ≤ 1000000) : ∃ v j t, spec_l1Cur_among.f l i s xs = some (v, j, t) ∧ i ≤ j ∧ j ≤ i + 2 ∧ v ∈ xs := by
 obtain ⟨v, j, t, e, g0, g1, g2, g3⟩ := cur_pick (s := s) (n := (xs.length : Int)) hb h0 h1 (by omega)
 unfold spec_l1Cur_among.f
 rw [e]
 simp only [Option.bind_some]
 rw [if_pos g2, if_pos (by omega)]
 refine ⟨_, _, _, rfl, g0, g1, ?_⟩
 have hi : v.toNat < xs.length := by omega
 have h3 : rd xs v = xs[v.toNat] := by simp only [rd]; exact getD_lt xs 0 v.toNat hi
 rw [h3]
 exact List.getElem_mem hi
/-- A cut literal. -/
theorem cur_cut {b v : Int} {n : Int} (h : 0 ≤ v) (hn : v < n ∨ v = 0) (hb : 0 ≤ b) (hb2 : b ≤ 1000) (hn2 : n ≤ 1000) : wrap64 (b + wrap64 (Int.tdiv v 11)) = b + v / 11 := by
 have e : Int.tdiv v 11 = v / 11 := Int.tdiv_eq_ediv_of_nonneg h
 rw [e, wrap_id (x := v / 11) (by omega) (by omega), wrap_id (by omega) (by omega)]
end Go.Proofs.YtmbpdegkkdcjnaaDoor.Pure
