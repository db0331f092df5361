/- Lists of stations, and the array's form of them. -/
import Derived.Test.YtfgkpokjhihaaaaMRx4
import Derived.Test.YtfgkpokjhihaaaaMRx7
import Derived.Test.YtfgkpokjhihaaaaPReach
import Derived.Test.YtfgkpokjhihaaaaPL1Has
import Derived.Test.YtfgkpokjhihaaaaPLegs
namespace Go.Proofs.Ytfgkpokjhihaaaa.Pure
open Go.RowKit Go.Proofs.Ytfgkpokjhihaaaa.MR Go.Proofs.YtfgkpokjhihaaaaW.PrintWords Go.Proofs.YtfgkpokjhihaaaaW.PrintLast Go.Proofs.YtfgkpokjhihaaaaW.PrintMore
set_option linter.unusedVariables false
set_option linter.unusedSimpArgs false
theorem putHit_same : ∀ {l : List Int} {n : Int}, putHit l n = true → insS n l = l
 | [], n, h => by simp [putHit] at h
 | x :: l, n, h => by
  simp only [putHit] at h
  simp only [insS]
  split at h
  ·rename_i hlt
   rw [if_pos hlt, putHit_same h]
  ·rename_i hlt
   rw [if_neg hlt, if_pos (by simpa using h)]
theorem putNew_at {l : List Int} {n : Int} (hm : l.length ≤ 1048576) : ∀ d i k, i + d = l.length → d < k → putHit (l.drop i) n = false → spec_l1PutNew.l0 k l n (i : Int) = some (l.take i ++ insS n (l.drop i)) := by
 intro d
 induction d with
 | zero =>
  intro i k hi hk hh
  obtain ⟨k, rfl⟩ : ∃ m, k = m + 1 := ⟨k - 1, by omega⟩
  simp only [spec_l1PutNew.l0, Option.bind_some, List.nil_append, List.length_append, List.length_nil, List.length_take, List.length_drop, List.length_cons, Int.toNat_natCast]
  rw [if_neg (by omega), if_pos (by omega), if_pos (by omega), if_pos (by omega), if_pos (by omega), if_pos (by omega), List.drop_eq_nil_of_le (by omega)]
  simp [insS]
 | succ d ih =>
  intro i k hi hk hh
  obtain ⟨k, rfl⟩ : ∃ m, k = m + 1 := ⟨k - 1, by omega⟩
  have hil : i < l.length := by omega
  have hd := List.drop_eq_getElem_cons hil
  rw [hd] at hh ⊢
  simp only [putHit] at hh
  simp only [insS]
  simp only [spec_l1PutNew.l0, Option.bind_some, List.nil_append, List.length_append, List.length_nil, List.length_take, List.length_drop, List.length_cons, Int.toNat_natCast, rd_nat, getD_lt _ _ _ hil]
  rw [if_pos (by omega), if_pos (by omega)]
  by_cases h1 : l[i] < n
  ·rw [if_pos h1] at hh ⊢
   rw [if_pos h1, wrap_up hil (by omega), ih (i + 1) k (by omega) (by omega) hh, List.take_succ_eq_append_getElem hil, List.append_assoc]
   rfl
  ·rw [if_neg h1] at hh ⊢
   have h2 : ¬ l[i] = n := by simpa using hh
   rw [if_neg h1, if_neg h2, if_neg h2, if_pos (by omega), if_pos (by omega), if_pos (by omega), if_pos (by omega), hd]
   simp
theorem l1Put_at {l : List Int} {n : Int} (hm : l.length ≤ 1048576) : ∀ k, l.length < k → spec_l1Put.f k l n = some (insS n l) := by
 intro k hk
 unfold spec_l1Put.f
 by_cases h : putHit l n = true
 ·rw [if_pos h, putHit_same h]
 ·rw [if_neg h]
  have := putNew_at (n := n) hm l.length 0 k (by omega) hk (by simpa using h)
  simpa [spec_l1PutNew.f] using this
theorem l1Put_ev {l : List Int} {n : Int} (hm : l.length ≤ 1048576) : Ev (fun k => spec_l1Put.f k l n) (insS n l) := Ev.past l.length fun k hk => l1Put_at hm k hk
/-- Rising stations. -/
def Good (o : List Int) : Prop := o.Pairwise (· < ·) ∧ ∀ z ∈ o, 0 ≤ z ∧ z < 8
theorem Good.len {o : List Int} (h : Good o) : o.length ≤ 8 := by
 have := rising_eq h.1 8 0 (fun z hz => by have := h.2 z hz; omega)
 rw [this]
 exact Nat.le_trans (List.length_filter_le _ _) (by simp)
theorem Good.fire {o : List Int} (h : Good o) {ok : Bool} {a b : Int} (ha : 0 ≤ a ∧ a < 8) (hb : 0 ≤ b ∧ b < 8) : Good (fire ok a b o) :=
 ⟨fire_up h.1, fun z hz => by
  rcases fire_new hz with hz | rfl | rfl
  ·exact h.2 z hz
  ·exact ha
  ·exact hb⟩
theorem Good.one {a : Int} (ha : 0 ≤ a ∧ a < 8) : Good [a] := ⟨by simp, fun z hz => by simp at hz; subst hz; exact ha⟩
def wideEnough (ws : List Int) (width : Int) (i : Nat) : Bool := decide (width ≤ ws.getD i 0)
/-- What is reached from a station. -/
def stationsOf (l : List S66) (ws : List Int) (from_ width : Int) : List Int := reached (wideEnough ws width) (fromOf l) (toOf l) l.length [from_]
theorem stationsOf_good {l : List S66} (ws : List Int) (hl : okLegs l = true) {from_ : Int} (hf : 0 ≤ from_ ∧ from_ < 8) (width : Int) : Good (stationsOf l ws from_ width) :=
 ⟨passes_up _ (Good.one hf).1, passes_in (P := fun z => 0 ≤ z ∧ z < 8) (ends_in hl) _ (Good.one hf).2⟩
/-- The array's form of a list of stations. -/
def arrL (o : List Int) : List Bool := (List.range 8).map (fun s : Nat => decide ((s : Int) ∈ o))
theorem arrL_length (o : List Int) : (arrL o).length = 8 := by simp [arrL]
theorem arrL_at (o : List Int) {j : Nat} (h : j < 8) : (arrL o)[j]? = some (decide ((j : Int) ∈ o)) := by simp [arrL, h]
theorem arrL_get {o : List Int} {a : Int} (h : 0 ≤ a ∧ a < 8) : (arrL o).getD a.toNat false = decide (a ∈ o) := by
 rw [List.getD_eq_getElem?_getD, arrL_at o (by omega), Option.getD_some, Int.toNat_of_nonneg h.1]
theorem arrL_set {o : List Int} {a : Int} (h : 0 ≤ a ∧ a < 8) : (arrL o).set a.toNat true = arrL (insS a o) := by
 apply List.ext_getElem?
 intro j
 by_cases hj : j < 8
 ·rw [arrL_at _ hj]
  by_cases hja : a.toNat = j
  ·rw [hja, List.getElem?_set_self (by rw [arrL_length]; exact hj), decide_eq_true]
   exact mem_insS.2 (.inl (by omega))
  ·rw [List.getElem?_set_ne hja, arrL_at _ hj]
   congr 1
   rw [decide_eq_decide, mem_insS]
   constructor
   ·exact fun h => .inr h
   ·rintro (h1 | h1)
    ·omega
    ·exact h1
 ·rw [List.getElem?_eq_none (by rw [List.length_set, arrL_length]; omega), List.getElem?_eq_none (by rw [arrL_length]; omega)]
theorem reachStep_arr {l : List S66} (ws : List Int) (width : Int) (hl : okLegs l = true) {i : Nat} (hi : i < l.length) (o : List Int) : reachStep l ws width i (arrL o) = arrL (fire (wideEnough ws width i) (fromOf l i) (toOf l i) o) := by
 have he := ends_in hl i hi
 unfold reachStep fire fires
 rw [show (l.getD i z66).f0 = fromOf l i from rfl, show (l.getD i z66).f1 = toOf l i from rfl, arrL_get he.1, arrL_get he.2, arrL_set he.1, arrL_set he.2]
 rw [show wideEnough ws width i = decide (width ≤ ws.getD i 0) from rfl]
 split <;> rfl
theorem reachPass_arr {l : List S66} (ws : List Int) (width : Int) (hl : okLegs l = true) : ∀ d i (o : List Int), i + d = l.length → reachPass l ws width d i (arrL o) = arrL (iter (fun i s => fire (wideEnough ws width i) (fromOf l i) (toOf l i) s) d i o)
 | 0, _, _, _ => rfl
 | d + 1, i, o, h => by
  simp only [reachPass, iter]
  rw [reachStep_arr ws width hl (by omega) o]
  exact reachPass_arr ws width hl d (i + 1) _ (by omega)
theorem reachAll_arr {l : List S66} (ws : List Int) (width : Int) (hl : okLegs l = true) : ∀ m (o : List Int), reachAll l ws width m (arrL o) = arrL (passes (wideEnough ws width) (fromOf l) (toOf l) l.length m o)
 | 0, _ => rfl
 | m + 1, o => by
  simp only [reachAll, passes]
  rw [reachPass_arr ws width hl l.length 0 o (by omega)]
  exact reachAll_arr ws width hl m _
theorem start_arr {a : Int} (h : 0 ≤ a ∧ a < 8) : (List.replicate 8 false).set a.toNat true = arrL [a] := by
 have h0 : List.replicate 8 false = arrL [] := by simp [arrL, List.range_succ]
 rw [h0, arrL_set h]
 rfl
theorem reachOf_arr {l : List S66} (ws : List Int) (hl : okLegs l = true) {from_ : Int} (hf : 0 ≤ from_ ∧ from_ < 8) (width : Int) : reachOf l ws from_ width = arrL (stationsOf l ws from_ width) := by
 unfold reachOf
 rw [start_arr hf, reachAll_arr ws width hl]
 rfl
theorem reachOk_of {l : List S66} {ws : List Int} (hl : okLegs l = true) (hw : l.length ≤ ws.length) {from_ : Int} (hf : 0 ≤ from_ ∧ from_ < 8) : reachOk l ws from_ = true := by
 unfold reachOk
 simp only [Bool.and_eq_true, decide_eq_true_eq, List.all_eq_true]
 refine ⟨hw, ⟨hf.1, by omega⟩, fun x hx => ?_⟩
 obtain ⟨i, hi, rfl⟩ := List.mem_iff_getElem.1 hx
 have := okLeg_says (okLegs_at hl hi)
 rw [getD_lt _ _ _ hi] at this
 omega
theorem memFrom_eq (B : List Bool) : ∀ d i acc, memFrom B d i acc = acc ++ ((List.range d).map (fun j : Nat => ((i + j : Nat) : Int))).filter (fun z => B.getD z.toNat false)
 | 0, _, _ => by simp [memFrom]
 | d + 1, i, acc => by
  have hr : (List.range (d + 1)).map (fun j : Nat => ((i + j : Nat) : Int)) = (i : Int) :: (List.range d).map (fun j : Nat => ((i + 1 + j : Nat) : Int)) := by
   rw [List.range_succ_eq_map, List.map_cons, List.map_map]
   congr 1
   apply List.map_congr_left
   intro j _
   simp only [Function.comp, Nat.succ_eq_add_one]
   omega
  simp only [memFrom]
  rw [hr, memFrom_eq B d (i + 1), List.filter_cons, Int.toNat_natCast]
  cases B.getD i false with
  | true => simp
  | false => simp
theorem memFrom_arr {o : List Int} (h : Good o) : memFrom (arrL o) 8 0 [] = o := by
 rw [memFrom_eq, List.nil_append]
 have h1 := rising_eq h.1 8 0 (fun z hz => by have := h.2 z hz; omega)
 have h2 : (List.range 8).map (fun j : Nat => ((0 + j : Nat) : Int)) = (List.range 8).map (fun i : Nat => (0 : Int) + (i : Int)) := by
  apply List.map_congr_left
  intro j _
  omega
 rw [h2]
 conv => rhs; rw [h1]
 apply List.filter_congr
 intro z hz
 obtain ⟨i, hi, rfl⟩ := List.mem_map.1 hz
 have hi := List.mem_range.1 hi
 rw [arrL_get (by omega)]
end Go.Proofs.Ytfgkpokjhihaaaa.Pure
