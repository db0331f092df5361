-- tight2 (a walk)
import Derived.Deep.RegionLaw
import Derived.Test.YtoljdjgndogegaaMSx0
import Derived.Test.YtoljdjgndogegaaMSx2
import Derived.Test.YtoljdjgndogegaaMSx4
namespace Go.Proofs.Ytoljdjgndogegaa.MS
open Go.RowKit Go.Proofs.YtoljdjgndogegaaW.PrintWords Go.Proofs.YtoljdjgndogegaaW.PrintLast
set_option maxHeartbeats 8000000
set_option maxRecDepth 100000
attribute [local go_sem] max2_int min2_int max_two min_two
set_option linter.unusedVariables false
set_option linter.unusedSimpArgs false

def slices_Clone_int_int.f (l0 : List (Int)) : Option (List (Int)) := if l0.length * 8 ≤ 140737488355328 then some l0 else none
theorem slices_Clone_int_int.calls (A0 : Option Addr) (c0 : Nat) (l0 : List (Int)) (r : List (Int)) (w : World) (hr0 : Kd.C (Kd.int .i64) w A0 l0.length l0) (hc0 : l0.length ≤ c0) (h : slices_Clone_int_int.f l0 = some r) :
  Calls Try.prog 36 #[.slice A0 l0.length c0] w fun e w' => ∃ v0_ : Value, e = .returned v0_ ∧ Kd.R (Kd.int .i64) 3 w' w.heap.size (fun _ => True) v0_ r ∧ Below w.heap.size w w' := by
 unfold slices_Clone_int_int.f at h
 by_cases hl : l0.length * 8 ≤ 140737488355328
 case neg => rw [yc hl] at h; cases h
 rw [yb hl] at h; obtain rfl := zm h; have HL := za hl; have HR0 := za hr0; have HC0 := za hc0; clear h hl; have HB := za (zs w.heap.size w)
 have qeq : ∀ (w : World) (a : Option Addr) (n c n' c' : Nat), (binOp .eql 25 (.slice a n c) (.slice none n' c')).run Try.prog w = .ok (.bool a.isNone) w := fun w a n c n' c' => by
  have hh : ∀ d : Nat, (Op.equalIn (d + 1) 25 (.slice a n c) (.slice none n' c')).run Try.prog w = .ok a.isNone w := fun d => by
   cases a <;> simp [Op.equalIn, run_underlying Try.underlying25]
  simp only [binOp]
  simp [Op.equal, Op.maxDepth, hh 9999]
 cases A0 with
 | none =>
  have h0 : l0.length = 0 := by
   rcases Nat.eq_zero_or_pos l0.length with h0 | h0
   ·exact h0
   ·obtain ⟨ad, e, _⟩ := hr0.2.2 h0; cases e
  obtain rfl := List.length_eq_zero_iff.1 h0; clear hr0 hc0 h0
  go_enter Try.func36, Try.ntmps36
  go_wp2
  go_ret
  exact ⟨_, rfl, Kd.R_nil _ _ _ _ _, (qS62)⟩
 | some ad =>
  clear hr0 hc0
  go_enter Try.func36, Try.ntmps36
  go_wp2_with (first | ((with_reducible refine zq (N := 5) rfl ?_); refine zQ (Kd.int .i64) _ 3 ?hg (N := 5) ?hd (xs := ([] : List (Int))) (inner := []) (ok := fun _ => True) (okp := fun _ => True) ?hr ?hp (fun _ hk => hk) trivial (zs _ _) (zo _) (by simp) ?_; (case hd | hg => rfl); (case hr => exact (qS26)); (case hp => exact (zu _ _)); intro v244 w7 ho8 hb hg_ hnew_; clear hg_ hnew_; have HO := za (by exact zP ho8 (zX (qS41))); replace HB := za (by exact zW (qS41) hb); clear hb ho8) | ((with_reducible refine zr (b := .append) (xs := #[.tmp 5, .tmp 6]) rfl ?_); at_builtin; refine Kd.R_append_rows (Kd.int .i64) (w0 := w) w.heap.size rfl (.tmp 5) (.tmp 6) 25 3 ((.int .i64 0)) 8 rfl Try.underlying25 info3 rfl (by decide) (by decide) _ ([] : List (Int)) l0 _ _ _ (fun _ => True) (fun _ => False) rfl rfl ?aO ?aR (fun _ _ h => h) (fun _ h => h.elim) ?aF ?aB ?aS ?aL ?_; (case aR => exact (qS13 HR0.1)); (case aB => exact (qS41)); (case aF => exact (fun _ _ => trivial)); (case aO => exact (qS54)); (case aS => exact (by exact (zX (qS41)))); (case aL => exact (by have hL := HL.1; rw [List.length_nil, Nat.zero_add]; exact hL)); intro v247 w9 ho hb hg hat; rw [List.nil_append] at ho; replace HB := za hb; replace HO := za ho; clear ho hb hg hat))
  go_ret
  exact ⟨_, rfl, HO.1, (qS41)⟩


theorem slices_Delete_int_int_clear {α : Type} {P : Program} (d : Kd α) {W : World} (base : Nat) (t e : TypeId) (z : Value) (bytes : Nat) (ht : P.underlying t = some (.slice e)) (hinfo : (P.info? e).map (fun i => (i.zero, i.size, i.bytes)) = some (some z, d.sz, bytes)) (hzs : z.cells.size = d.sz) (hone : ∀ u ∈ z.cells.toList, u.oneCell' = true)
  {g n c : Nat} {xs : List α} {ok : Nat → Prop} (HO : Kd.R d e W base ok (.slice (some ⟨g, 0, none⟩) n c) xs) (hc : n + 1 ≤ c) :
  ∃ w1, (∀ ty cc, (Builtin.clear_ #[t] ty #[.slice (some ⟨g, n * d.sz, none⟩) 1 cc]).run P W = .ok (.tuple #[]) w1) ∧ Kd.R d e w1 base ok (.slice (some ⟨g, 0, none⟩) n c) xs ∧ W.grownBy w1 (some g) := by
 obtain ⟨hn, hnc, _⟩ := zH HO; obtain ⟨hok, inner, hown, hr⟩ := HO
 have hin : inner.length = n * d.sz := by rw [hr.1, hn]
 rcases hown.2 with ⟨hv, _⟩ | ⟨g', cap', cur, hv, hb, hh, hle, hcm, hcs, htake⟩
 ·cases hv
 injection hv with ha _ hc'
 injection ha with ha
 injection ha with hg
 subst hg; subst hc'; rw [← hn] at htake hle; obtain ⟨i0, hi, hiz⟩ := Option.map_eq_some_iff.1 hinfo; simp only [ye] at hiz; obtain ⟨hz0, hs0, _⟩ := hiz; obtain ⟨vs, hvs⟩ : ∃ vs, vs = z.cells.toList := ⟨_, rfl⟩
 have hvl : vs.length = d.sz := by rw [hvs, Array.length_toList, hzs]
 have hfit : n * d.sz + vs.length ≤ cur.size := by rw [hvl, hcs, ← Nat.succ_mul]; exact Nat.mul_le_mul_right _ hc
 have hzc : (Builtin.zeroCells z.cells 1).toList = vs := by
  rw [hvs]
  simp [Builtin.zeroCells]
  apply List.ext_getElem
  ·simp
  ·intro i h1 h2
   simp at h1 h2
   simp only [List.getElem_map, List.getElem_range, Nat.mod_eq_of_lt h1, Array.getElem_toList]
   exact getElem!_pos _ _ _
 have hst := run_storeCells_cells (P := P) g (n * d.sz) vs 0 W (fun j hj => by rw [cell_of_row W g _ cur e (0, 0) hh]; simp; omega) (fun j _ => ze hh _) (by intro v hv; rw [hvs] at hv; exact hone v hv)
 rw [Nat.add_zero] at hst; obtain ⟨cur', h3, h4, h5⟩ := setCells_row vs (n * d.sz) W cur hh hfit; obtain ⟨s1, s2, s3, s4⟩ := setCells_same g vs (n * d.sz) W; have hfar : ∀ k', k' ≠ g → (W.setCells g (n * d.sz) vs).heap[k']? = W.heap[k']? := fun k' hk' => setCells_far vs _ k' hk'
 refine ⟨W.setCells g (n * d.sz) vs, ?_, ⟨hok, inner, ⟨hown.1, .inr ⟨g, c, cur', by rw [← hn], hb, h3, by rw [← hn]; exact hle, hcm, by rw [h4, hcs], ?_⟩⟩, hr.imp_ ?_⟩, ⟨s1, s2, s3, by rw [s4]; exact zo _, fun k' _ hk' => hfar k' (fun he => hk' (by rw [he]))⟩⟩
 ·intro ty cc
  simp [Builtin.clear_, run_underlying ht, zeroValue, typeInfo, hi, hz0, hzc, hst]
 ·rw [← hn, h5, List.append_assoc, List.take_append_of_le_length (by rw [List.length_take, Array.length_toList]; omega), List.take_take, Nat.min_self]
  exact htake
 ·exact fun p q hp => d.M_move (fun k' hk' => hfar k' (fun he => hk'.2 (by rw [he]; simp [Value.ownBlock]))) hp
theorem slices_Delete_int_int_law {P : Program} {ops : Array Oper} {o : Oper} {a : Act} {Q : Exit → Act → World → Prop} {Kc : Act → World → Prop} {E : Prop} {α : Type} (d : Kd α) {w0 W : World} (base : Nat) (hg : o.guard = none) (s x : Operand) (t e : TypeId) (ho : o.op = .call { callee := .builtin .append, args := #[s, x], argTypes := #[t, t] })
  (ht : P.underlying t = some (.slice e)) (hinfo : (P.info? e).map (·.size) = some d.sz) {g n c k m c2 : Nat} {A : Option Addr} {xs : List α} {ok : Nat → Prop}
  (hs : a.eval s = .slice (some ⟨g, 0, none⟩) k c) (hx : a.eval x = .slice A m c2) (hA : A = if c = k + 1 then some ⟨g, 0, none⟩ else (some (⟨g, 0, none⟩ : Addr)).map (·.add ((k + 1) * d.sz))) (hm : m = n - (k + 1))
  (HO : Kd.R d e W base ok (.slice (some ⟨g, 0, none⟩) n c) xs) (hk : k < n) (HB : Below base w0 W) (hbase : base ≤ W.heap.size)
  (h : ∀ w1, Kd.R d e w1 base ok (.slice (some ⟨g, 0, none⟩) (n - 1) c) (xs.eraseIdx k) → Below base w0 w1 → W.grownBy w1 (some g) → Kc (a.put o.dst (.slice (some ⟨g, 0, none⟩) (n - 1) c)) w1) :
  if Region.wanted o (yielded ops a.tmps) = true then Oper.wp P o a W Kc Q else E := by
 have hw : Region.wanted o (yielded ops a.tmps) = true := by simp [Region.wanted, hg]
 have := Kd.R_delete_step (P := P) (Q := Q) (Kc := Kc) (ops := ops) d base hw s x t e ho ht hinfo hs hx hA hm HO hk HB hbase h; rw [yb hw] at this ⊢
 exact this
def slices_Delete_int_int.f (l0 : List (Int)) (a1 a2 : Int) : Option (List (Int)) := if 0 ≤ a1 ∧ a1 < (l0.length : Int) ∧ a2 = a1 + 1 then some (l0.eraseIdx a1.toNat) else none
theorem slices_Delete_int_int.calls (P0_ : Nat → Prop) (u9000_ : Value) (l0 : List (Int)) (a1 a2 : Int) (r : List (Int)) (w0 w : World) (hB : Below w0.heap.size w0 w) (ho0 : Kd.R (Kd.int .i64) 3 w w0.heap.size P0_ u9000_ l0) (h : slices_Delete_int_int.f l0 a1 a2 = some r) :
  Calls Try.prog 54 #[u9000_, .int .i64 a1, .int .i64 a2] w fun e w' => ∃ v0_ : Value, e = .returned v0_ ∧ Kd.R (Kd.int .i64) 3 w' w0.heap.size (fun k_ => (P0_ k_ ∨ w.heap.size ≤ k_)) v0_ r ∧ Below w0.heap.size w0 w' ∧ Kept w w' (fun k_ => P0_ k_) := by
 unfold slices_Delete_int_int.f at h
 by_cases hc : 0 ≤ a1 ∧ a1 < (l0.length : Int) ∧ a2 = a1 + 1
 case neg => rw [yc hc] at h; cases h
 rw [yb hc] at h; obtain rfl := zm h; obtain ⟨h1, h2, rfl⟩ := hc; obtain ⟨k, rfl⟩ : ∃ k : Nat, a1 = (k : Int) := ⟨a1.toNat, by omega⟩; obtain ⟨j, hj, hj'⟩ : ∃ j : Nat, (k : Int) + 1 = (j : Int) ∧ j = k + 1 := ⟨k + 1, by omega, rfl⟩; rw [hj, Int.toNat_natCast]; obtain ⟨m, hm⟩ : ∃ m, l0.length = m + 1 := ⟨l0.length - 1, by omega⟩
 have hkl : k < l0.length := by omega
 obtain ⟨g, c, rfl, hgb, hgl, cells, hcells⟩ := Kd.R_form ho0 (by omega); obtain ⟨_, hnc, _⟩ := zH ho0
 have hcm : c ≤ 9223372036854775807 := by
  obtain ⟨_, inner, hown, _⟩ := ho0
  rcases hown.2 with ⟨hv, _⟩ | ⟨g', cap', cur, hv, _, _, _, hcm, _⟩
  ·cases hv
  ·injection hv with _ _ hc'
   subst hc'
   exact hcm
 rw [hm] at ho0 hnc hkl ⊢; have HO := za (by exact show Kd.R (Kd.int .i64) 3 w w0.heap.size (fun k_ => (P0_ k_ ∨ w.heap.size ≤ k_)) (.slice (some ⟨g, 0, none⟩) (m + 1) c) l0 from zK ho0 (fun k_ hk => (.inl hk))); have HP0 : Aside0 (P0_ g) := ⟨ho0.1 g (by simp [Value.ownBlock])⟩; have HK := za (Kept.refl w (fun k_ => P0_ k_)); have HB := za hB; have HM := za hm; have HJ := za hj'; have HKL := za hkl; have HGB := za hgb; have HGL := za hgl; have HBL := za (zX hB)
 have hij : k ≤ j := by omega
 have hlt : k < j := by omega
 have heq : ¬ k = j := by omega
 have hjm : j ≤ m + 1 := by omega
 have hjc : j ≤ c := by omega
 have hkc : k ≤ c := by omega
 have hmc : m ≤ c := by omega
 have hmc1 : m < c := by omega
 have hcne : ¬ c = m := by omega
 have hkm : k ≤ m := by omega
 have hjz : (j : Int) ≤ (m : Int) + 1 := by omega
 have hkz : (k : Int) ≤ (m : Int) + 1 := by omega
 have hmz : (m : Int) ≤ (m : Int) + 1 := by omega
 clear ho0 h1 h2 hj hj' hkl hcells hgb hgl hB hm; have hinfoS : Aside0 ((Try.prog.info? 3).map (·.size) = some (Kd.sz (Kd.int .i64))) := ⟨by have := info3; rw [Option.map_eq_some_iff] at this ⊢; obtain ⟨i0, hi, hz⟩ := this; exact ⟨i0, hi, by simp only [ye] at hz; exact hz.2.1⟩⟩
 rcases Decidable.em (c = j) with hcj | hcj
 all_goals try subst hcj
 all_goals go_enter Try.func54, Try.ntmps54
 all_goals go_wp2_with fail
 all_goals go_region_law (apply slices_Delete_int_int_law (Kd.int .i64) (w0 := w0) (base := w0.heap.size) (s := .tmp 22) (x := .tmp 25) (t := 25) (e := 3) (k := k) (n := m + 1) (hg := rfl) (ho := rfl) (ht := Try.underlying25) (hinfo := hinfoS.out) (hk := HKL.1); (case HO => exact (qS54)); (case HB => exact (qS41)); (case hbase => exact HBL.1); (case hs => exact (by first | rfl | (simp [Act.eval, Act.put]; done))); (case hx => exact (by first | rfl | (simp [Act.eval, Act.put]; rfl))); (case hA => exact (by first | exact (yb HJ.1).symm | (rw [yc (fun h_ => hcj (h_.trans HJ.1.symm)), Option.map_some, add_at, ← HJ.1, show Kd.sz (Kd.int .i64) = 1 from rfl]; first | rfl | (simp; done)))); (case hm => exact (by first | (rw [← HJ.1]; done) | (have hj_ := HJ.1; omega))); intro w1 ho hb hg; have n0_ := za ho; have n1_ := za hb; have n2_ : Aside0 (Kept w w1 (fun k_ => P0_ k_)) := ⟨Kept.of_grown (S := (fun k_ => P0_ k_)) hg (by first | exact HK.1 | exact Kept.drew HK.1 | exact (HK.1)) (fun k_ e_ => by cases e_; exact .inl HP0.1)⟩; obtain ⟨w2, hcl0, ho2, hg2⟩ := slices_Delete_int_int_clear (P := Try.prog) (Kd.int .i64) w0.heap.size 25 3 _ _ Try.underlying25 info3 rfl (by simp [Value.cells, Value.oneCell']) n0_.out (show m + 1 - 1 + 1 ≤ c by omega); have hcl : ∀ ty cc, (Builtin.clear_ #[25] ty #[.slice (some ⟨g, m, none⟩) 1 cc]).run Try.prog w1 = .ok (.tuple #[]) w2 := (fun ty cc => by have h_ := hcl0 ty cc; simpa [show Kd.sz (Kd.int .i64) = 1 from rfl] using h_); have m0_ := za (by exact show Kd.R (Kd.int .i64) 3 w2 w0.heap.size (fun k_ => (P0_ k_ ∨ w.heap.size ≤ k_)) (.slice (some ⟨g, 0, none⟩) m c) (l0.eraseIdx k) from ho2); have m1_ := za qS60; have m2_ : Aside0 (Kept w w2 (fun k_ => P0_ k_)) := ⟨Kept.of_grown (S := (fun k_ => P0_ k_)) hg2 n2_.out (fun k_ e_ => by cases e_; exact .inl HP0.1)⟩; clear HO HB HK n0_ n1_ n2_ ho hb hg hcl0 ho2 hg2; have HO := m0_; have HB := m1_; have HK := m2_; clear m0_ m1_ m2_)
 all_goals go_wp2
 all_goals go_ret
 all_goals exact ⟨_, rfl, HO.1, HB.1, HK.1⟩


theorem impl_Leg_78_clear {α : Type} {P : Program} (d : Kd α) {W : World} (base : Nat) (t e : TypeId) (z : Value) (bytes : Nat) (ht : P.underlying t = some (.slice e)) (hinfo : (P.info? e).map (fun i => (i.zero, i.size, i.bytes)) = some (some z, d.sz, bytes)) (hzs : z.cells.size = d.sz) (hone : ∀ u ∈ z.cells.toList, u.oneCell' = true)
  {g n c : Nat} {xs : List α} {ok : Nat → Prop} (HO : Kd.R d e W base ok (.slice (some ⟨g, 0, none⟩) n c) xs) (hc : n + 1 ≤ c) :
  ∃ w1, (∀ ty cc, (Builtin.clear_ #[t] ty #[.slice (some ⟨g, n * d.sz, none⟩) 1 cc]).run P W = .ok (.tuple #[]) w1) ∧ Kd.R d e w1 base ok (.slice (some ⟨g, 0, none⟩) n c) xs ∧ W.grownBy w1 (some g) := by
 obtain ⟨hn, hnc, _⟩ := zH HO; obtain ⟨hok, inner, hown, hr⟩ := HO
 have hin : inner.length = n * d.sz := by rw [hr.1, hn]
 rcases hown.2 with ⟨hv, _⟩ | ⟨g', cap', cur, hv, hb, hh, hle, hcm, hcs, htake⟩
 ·cases hv
 injection hv with ha _ hc'
 injection ha with ha
 injection ha with hg
 subst hg; subst hc'; rw [← hn] at htake hle; obtain ⟨i0, hi, hiz⟩ := Option.map_eq_some_iff.1 hinfo; simp only [ye] at hiz; obtain ⟨hz0, hs0, _⟩ := hiz; obtain ⟨vs, hvs⟩ : ∃ vs, vs = z.cells.toList := ⟨_, rfl⟩
 have hvl : vs.length = d.sz := by rw [hvs, Array.length_toList, hzs]
 have hfit : n * d.sz + vs.length ≤ cur.size := by rw [hvl, hcs, ← Nat.succ_mul]; exact Nat.mul_le_mul_right _ hc
 have hzc : (Builtin.zeroCells z.cells 1).toList = vs := by
  rw [hvs]
  simp [Builtin.zeroCells]
  apply List.ext_getElem
  ·simp
  ·intro i h1 h2
   simp at h1 h2
   simp only [List.getElem_map, List.getElem_range, Nat.mod_eq_of_lt h1, Array.getElem_toList]
   exact getElem!_pos _ _ _
 have hst := run_storeCells_cells (P := P) g (n * d.sz) vs 0 W (fun j hj => by rw [cell_of_row W g _ cur e (0, 0) hh]; simp; omega) (fun j _ => ze hh _) (by intro v hv; rw [hvs] at hv; exact hone v hv)
 rw [Nat.add_zero] at hst; obtain ⟨cur', h3, h4, h5⟩ := setCells_row vs (n * d.sz) W cur hh hfit; obtain ⟨s1, s2, s3, s4⟩ := setCells_same g vs (n * d.sz) W; have hfar : ∀ k', k' ≠ g → (W.setCells g (n * d.sz) vs).heap[k']? = W.heap[k']? := fun k' hk' => setCells_far vs _ k' hk'
 refine ⟨W.setCells g (n * d.sz) vs, ?_, ⟨hok, inner, ⟨hown.1, .inr ⟨g, c, cur', by rw [← hn], hb, h3, by rw [← hn]; exact hle, hcm, by rw [h4, hcs], ?_⟩⟩, hr.imp_ ?_⟩, ⟨s1, s2, s3, by rw [s4]; exact zo _, fun k' _ hk' => hfar k' (fun he => hk' (by rw [he]))⟩⟩
 ·intro ty cc
  simp [Builtin.clear_, run_underlying ht, zeroValue, typeInfo, hi, hz0, hzc, hst]
 ·rw [← hn, h5, List.append_assoc, List.take_append_of_le_length (by rw [List.length_take, Array.length_toList]; omega), List.take_take, Nat.min_self]
  exact htake
 ·exact fun p q hp => d.M_move (fun k' hk' => hfar k' (fun he => hk'.2 (by rw [he]; simp [Value.ownBlock]))) hp
theorem impl_Leg_78_law {P : Program} {ops : Array Oper} {o : Oper} {a : Act} {Q : Exit → Act → World → Prop} {Kc : Act → World → Prop} {E : Prop} {α : Type} (d : Kd α) {w0 W : World} (base : Nat) (hg : o.guard = none) (s x : Operand) (t e : TypeId) (ho : o.op = .call { callee := .builtin .append, args := #[s, x], argTypes := #[t, t] })
  (ht : P.underlying t = some (.slice e)) (hinfo : (P.info? e).map (·.size) = some d.sz) {g n c k m c2 : Nat} {A : Option Addr} {xs : List α} {ok : Nat → Prop}
  (hs : a.eval s = .slice (some ⟨g, 0, none⟩) k c) (hx : a.eval x = .slice A m c2) (hA : A = if c = k + 1 then some ⟨g, 0, none⟩ else (some (⟨g, 0, none⟩ : Addr)).map (·.add ((k + 1) * d.sz))) (hm : m = n - (k + 1))
  (HO : Kd.R d e W base ok (.slice (some ⟨g, 0, none⟩) n c) xs) (hk : k < n) (HB : Below base w0 W) (hbase : base ≤ W.heap.size)
  (h : ∀ w1, Kd.R d e w1 base ok (.slice (some ⟨g, 0, none⟩) (n - 1) c) (xs.eraseIdx k) → Below base w0 w1 → W.grownBy w1 (some g) → Kc (a.put o.dst (.slice (some ⟨g, 0, none⟩) (n - 1) c)) w1) :
  if Region.wanted o (yielded ops a.tmps) = true then Oper.wp P o a W Kc Q else E := by
 have hw : Region.wanted o (yielded ops a.tmps) = true := by simp [Region.wanted, hg]
 have := Kd.R_delete_step (P := P) (Q := Q) (Kc := Kc) (ops := ops) d base hw s x t e ho ht hinfo hs hx hA hm HO hk HB hbase h; rw [yb hw] at this ⊢
 exact this
def impl_Leg_78.f (l0 : List (S58)) (a1 a2 : Int) : Option (List (S58)) := if 0 ≤ a1 ∧ a1 < (l0.length : Int) ∧ a2 = a1 + 1 then some (l0.eraseIdx a1.toNat) else none
theorem impl_Leg_78.calls (P0_ : Nat → Prop) (u9000_ : Value) (l0 : List (S58)) (a1 a2 : Int) (r : List (S58)) (w0 w : World) (hB : Below w0.heap.size w0 w) (ho0 : Kd.R k58 58 w w0.heap.size P0_ u9000_ l0) (h : impl_Leg_78.f l0 a1 a2 = some r) :
  Calls Try.prog 78 #[u9000_, .int .i64 a1, .int .i64 a2] w fun e w' => ∃ v0_ : Value, e = .returned v0_ ∧ Kd.R k58 58 w' w0.heap.size (fun k_ => (P0_ k_ ∨ w.heap.size ≤ k_)) v0_ r ∧ Below w0.heap.size w0 w' ∧ Kept w w' (fun k_ => P0_ k_) := by
 unfold impl_Leg_78.f at h
 by_cases hc : 0 ≤ a1 ∧ a1 < (l0.length : Int) ∧ a2 = a1 + 1
 case neg => rw [yc hc] at h; cases h
 rw [yb hc] at h; obtain rfl := zm h; obtain ⟨h1, h2, rfl⟩ := hc; obtain ⟨k, rfl⟩ : ∃ k : Nat, a1 = (k : Int) := ⟨a1.toNat, by omega⟩; obtain ⟨j, hj, hj'⟩ : ∃ j : Nat, (k : Int) + 1 = (j : Int) ∧ j = k + 1 := ⟨k + 1, by omega, rfl⟩; rw [hj, Int.toNat_natCast]; obtain ⟨m, hm⟩ : ∃ m, l0.length = m + 1 := ⟨l0.length - 1, by omega⟩
 have hkl : k < l0.length := by omega
 obtain ⟨g, c, rfl, hgb, hgl, cells, hcells⟩ := Kd.R_form ho0 (by omega); obtain ⟨_, hnc, _⟩ := zH ho0
 have hcm : c ≤ 9223372036854775807 := by
  obtain ⟨_, inner, hown, _⟩ := ho0
  rcases hown.2 with ⟨hv, _⟩ | ⟨g', cap', cur, hv, _, _, _, hcm, _⟩
  ·cases hv
  ·injection hv with _ _ hc'
   subst hc'
   exact hcm
 rw [hm] at ho0 hnc hkl ⊢; have HO := za (by exact show Kd.R k58 58 w w0.heap.size (fun k_ => (P0_ k_ ∨ w.heap.size ≤ k_)) (.slice (some ⟨g, 0, none⟩) (m + 1) c) l0 from zK ho0 (fun k_ hk => (.inl hk))); have HP0 : Aside0 (P0_ g) := ⟨ho0.1 g (by simp [Value.ownBlock])⟩; have HK := za (Kept.refl w (fun k_ => P0_ k_)); have HB := za hB; have HM := za hm; have HJ := za hj'; have HKL := za hkl; have HGB := za hgb; have HGL := za hgl; have HBL := za (zX hB)
 have hij : k ≤ j := by omega
 have hlt : k < j := by omega
 have heq : ¬ k = j := by omega
 have hjm : j ≤ m + 1 := by omega
 have hjc : j ≤ c := by omega
 have hkc : k ≤ c := by omega
 have hmc : m ≤ c := by omega
 have hmc1 : m < c := by omega
 have hcne : ¬ c = m := by omega
 have hkm : k ≤ m := by omega
 have hjz : (j : Int) ≤ (m : Int) + 1 := by omega
 have hkz : (k : Int) ≤ (m : Int) + 1 := by omega
 have hmz : (m : Int) ≤ (m : Int) + 1 := by omega
 clear ho0 h1 h2 hj hj' hkl hcells hgb hgl hB hm; have hinfoS : Aside0 ((Try.prog.info? 58).map (·.size) = some (Kd.sz k58)) := ⟨by have := info58; rw [Option.map_eq_some_iff] at this ⊢; obtain ⟨i0, hi, hz⟩ := this; exact ⟨i0, hi, by simp only [ye] at hz; exact hz.2.1⟩⟩
 rcases Decidable.em (c = j) with hcj | hcj
 all_goals try subst hcj
 all_goals go_enter Try.func78, Try.ntmps78
 all_goals go_wp2_with fail
 all_goals go_region_law (apply impl_Leg_78_law k58 (w0 := w0) (base := w0.heap.size) (s := .tmp 22) (x := .tmp 25) (t := 24) (e := 58) (k := k) (n := m + 1) (hg := rfl) (ho := rfl) (ht := Try.underlying24) (hinfo := hinfoS.out) (hk := HKL.1); (case HO => exact (qS54)); (case HB => exact (qS41)); (case hbase => exact HBL.1); (case hs => exact (by first | rfl | (simp [Act.eval, Act.put]; done))); (case hx => exact (by first | rfl | (simp [Act.eval, Act.put]; rfl))); (case hA => exact (by first | exact (yb HJ.1).symm | (rw [yc (fun h_ => hcj (h_.trans HJ.1.symm)), Option.map_some, add_at, ← HJ.1, show Kd.sz k58 = 5 from rfl]; first | rfl | (simp; done)))); (case hm => exact (by first | (rw [← HJ.1]; done) | (have hj_ := HJ.1; omega))); intro w1 ho hb hg; have n0_ := za ho; have n1_ := za hb; have n2_ : Aside0 (Kept w w1 (fun k_ => P0_ k_)) := ⟨Kept.of_grown (S := (fun k_ => P0_ k_)) hg (by first | exact HK.1 | exact Kept.drew HK.1 | exact (HK.1)) (fun k_ e_ => by cases e_; exact .inl HP0.1)⟩; obtain ⟨w2, hcl0, ho2, hg2⟩ := impl_Leg_78_clear (P := Try.prog) k58 w0.heap.size 24 58 _ _ Try.underlying24 info58 rfl (by simp [Value.cells, Value.oneCell']) n0_.out (show m + 1 - 1 + 1 ≤ c by omega); have hcl : ∀ ty cc, (Builtin.clear_ #[24] ty #[.slice (some ⟨g, m * 5, none⟩) 1 cc]).run Try.prog w1 = .ok (.tuple #[]) w2 := (fun ty cc => by have h_ := hcl0 ty cc; simpa [show Kd.sz k58 = 5 from rfl] using h_); have m0_ := za (by exact show Kd.R k58 58 w2 w0.heap.size (fun k_ => (P0_ k_ ∨ w.heap.size ≤ k_)) (.slice (some ⟨g, 0, none⟩) m c) (l0.eraseIdx k) from ho2); have m1_ := za qS60; have m2_ : Aside0 (Kept w w2 (fun k_ => P0_ k_)) := ⟨Kept.of_grown (S := (fun k_ => P0_ k_)) hg2 n2_.out (fun k_ e_ => by cases e_; exact .inl HP0.1)⟩; clear HO HB HK n0_ n1_ n2_ ho hb hg hcl0 ho2 hg2; have HO := m0_; have HB := m1_; have HK := m2_; clear m0_ m1_ m2_)
 all_goals go_wp2
 all_goals go_ret
 all_goals exact ⟨_, rfl, HO.1, HB.1, HK.1⟩


def impl_Leg_79.f (l0 : List (S58)) : Option (List (S58)) := if l0.length * 40 ≤ 140737488355328 then some l0 else none
theorem impl_Leg_79.calls (A0 : Option Addr) (c0 : Nat) (l0 : List (S58)) (r : List (S58)) (w : World) (hr0 : Kd.C k58 w A0 l0.length l0) (hc0 : l0.length ≤ c0) (h : impl_Leg_79.f l0 = some r) :
  Calls Try.prog 79 #[.slice A0 l0.length c0] w fun e w' => ∃ v0_ : Value, e = .returned v0_ ∧ Kd.R k58 58 w' w.heap.size (fun _ => True) v0_ r ∧ Below w.heap.size w w' := by
 unfold impl_Leg_79.f at h
 by_cases hl : l0.length * 40 ≤ 140737488355328
 case neg => rw [yc hl] at h; cases h
 rw [yb hl] at h; obtain rfl := zm h; have HL := za hl; have HR0 := za hr0; have HC0 := za hc0; clear h hl; have HB := za (zs w.heap.size w)
 have qeq : ∀ (w : World) (a : Option Addr) (n c n' c' : Nat), (binOp .eql 24 (.slice a n c) (.slice none n' c')).run Try.prog w = .ok (.bool a.isNone) w := fun w a n c n' c' => by
  have hh : ∀ d : Nat, (Op.equalIn (d + 1) 24 (.slice a n c) (.slice none n' c')).run Try.prog w = .ok a.isNone w := fun d => by
   cases a <;> simp [Op.equalIn, run_underlying Try.underlying24]
  simp only [binOp]
  simp [Op.equal, Op.maxDepth, hh 9999]
 cases A0 with
 | none =>
  have h0 : l0.length = 0 := by
   rcases Nat.eq_zero_or_pos l0.length with h0 | h0
   ·exact h0
   ·obtain ⟨ad, e, _⟩ := hr0.2.2 h0; cases e
  obtain rfl := List.length_eq_zero_iff.1 h0; clear hr0 hc0 h0
  go_enter Try.func79, Try.ntmps79
  go_wp2
  go_ret
  exact ⟨_, rfl, Kd.R_nil _ _ _ _ _, (qS62)⟩
 | some ad =>
  clear hr0 hc0
  go_enter Try.func79, Try.ntmps79
  go_wp2_with (first | ((with_reducible refine zq (N := 5) rfl ?_); refine zQ k58 _ 58 ?hg (N := 5) ?hd (xs := ([] : List (S58))) (inner := []) (ok := fun _ => True) (okp := fun _ => True) ?hr ?hp (fun _ hk => hk) trivial (zs _ _) (zo _) (by simp) ?_; (case hd | hg => rfl); (case hr => exact (qS26)); (case hp => exact (zu _ _)); intro v244 w7 ho8 hb hg_ hnew_; clear hg_ hnew_; have HO := za (by exact zP ho8 (zX (qS41))); replace HB := za (by exact zW (qS41) hb); clear hb ho8) | ((with_reducible refine zr (b := .append) (xs := #[.tmp 5, .tmp 6]) rfl ?_); at_builtin; refine Kd.R_append_rows k58 (w0 := w) w.heap.size rfl (.tmp 5) (.tmp 6) 24 58 ((.agg #[(.int .i64 0), (.int .i64 0), (.int .i64 0), (.int .i64 0), (.int .i64 0)])) 40 rfl Try.underlying24 info58 rfl (by decide) (by decide) _ ([] : List (S58)) l0 _ _ _ (fun _ => True) (fun _ => False) rfl rfl ?aO ?aR (fun _ _ h => h) (fun _ h => h.elim) ?aF ?aB ?aS ?aL ?_; (case aR => exact (qS13 HR0.1)); (case aB => exact (qS41)); (case aF => exact (fun _ _ => trivial)); (case aO => exact (qS54)); (case aS => exact (by exact (zX (qS41)))); (case aL => exact (by have hL := HL.1; rw [List.length_nil, Nat.zero_add]; exact hL)); intro v247 w9 ho hb hg hat; rw [List.nil_append] at ho; replace HB := za hb; replace HO := za ho; clear ho hb hg hat))
  go_ret
  exact ⟨_, rfl, HO.1, (qS41)⟩


def impl_leaving.f (l0 : List (S58)) (a1 : Int) : Option ((List (S58))) := (impl_Leg_79.f l0).bind fun t429 => ((impl_Leg_78.f t429 a1 (wrap64 (a1 + 1))).bind fun t432 => (some t432))
theorem impl_leaving.calls (A0 : Option Addr) (c0 : Nat) (l0 : List (S58)) (a1 : Int) (r : List (S58)) (w : World) (hr0 : Kd.C k58 w A0 l0.length l0) (hc0 : l0.length ≤ c0) (h : impl_leaving.f l0 a1 = some r) :
  Calls Try.prog 55 #[.slice A0 l0.length c0, .int .i64 a1] w fun e w' => ∃ v0_ : Value, e = .returned (v0_) ∧ Kd.R k58 58 w' w.heap.size (fun _ => True) v0_ r ∧ Below w.heap.size w w' := by
 have HR0 := za hr0; have HC0 := za hc0; clear hr0 hc0; have HB := za (zs w.heap.size w); have H : ((impl_Leg_79.f l0).bind fun t429 => ((impl_Leg_78.f t429 a1 (wrap64 (a1 + 1))).bind fun t432 => (some t432))) = some r := h; clear h; replace H := bindA H; obtain ⟨t429, A3, H⟩ := H; (try dsimp only at H); replace H := zC H; obtain ⟨t432, A40, H⟩ := H; replace H : (some t432) = some r := H; have A4 := za A40; clear A40; obtain rfl := zm H
 go_enter Try.func55, Try.ntmps55
 go_wp2_with (first | ((with_reducible refine zp (f := 79) rfl ?_); refine zV (some 6) rfl rfl Try.func79 (qS27) rfl #[.slice A0 l0.length c0] rfl (qS2) ?_; (with_reducible refine (impl_Leg_79.calls _ _ l0 t429 _ ?s1 ?s2 A3.1).mono ?_); (case s1 => exact (qS21 HR0.1)); (case s2 => exact HC0.1); rintro e w5 ⟨v430, rfl, ho0, hb⟩; refine ⟨_, rfl, ?_⟩; have HO431 := za (qS77 ho0); replace HB := za qS64; clear hb ho0; obtain ⟨Ao6, co6, eo6⟩ := zI HO431.1; subst eo6) | ((with_reducible refine zp (f := 78) rfl ?_); refine zV (some 10) rfl rfl Try.func78 (qS27) rfl #[.slice Ao6 t429.length co6, .int .i64 a1, .int .i64 (wrap64 (a1 + 1))] rfl (qS2) ?_; (with_reducible refine (impl_Leg_78.calls (fun k_ => some k_ = (.slice Ao6 t429.length co6 : Value).ownBlock) (.slice Ao6 t429.length co6) t429 a1 (wrap64 (a1 + 1)) t432 w _ ?s1 ?s2 A4.1).mono ?_); (case s1 => exact (qS0)); (case s2 => exact (by exact Kd.R_tight rfl HO431.1)); rintro e w7 ⟨v433, rfl, ho0, hb, hkp⟩; refine ⟨_, rfl, ?_⟩; have HO434 := za (zK (ok' := fun k_ => True) ho0 (fun k_ hk_ => trivial)); replace HB := za hb; clear HO431; clear hb ho0))
 go_ret
 exact ⟨_, (qS11), (qS1 HO434.1), (qS0)⟩

def impl_NarrowPlaces.l0 : Nat → List (S58) → List Int → Int → Int → Int → List Int → Int → Int → Option (List Int × Bool)
 | 0, _, _, _, _, _, _, _, _ => none
 | k + 1, x0, x1, x2, x3, x10, x11, x28, x29 => if x29 < x28 then ((slices_Clone_int_int.f x1).bind fun t437 => ((slices_Delete_int_int.f t437 x29 (wrap64 (x29 + 1))).bind fun t440 => (if 0 ≤ x29 then (if x29 < (x1.length : Int) then (if (rd x1 x29) = x10 then ((impl_leaving.f x0 x29).bind fun t444 => ((impl_greatest.f t444 t440 x2 x3).bind fun t447 => (if t447 < x10 then (if x11.length < 17592186044416 then (impl_NarrowPlaces.l0 k x0 x1 x2 x3 x10 (x11 ++ [x29]) x28 (wrap64 (x29 + 1))) else (none)) else (impl_NarrowPlaces.l0 k x0 x1 x2 x3 x10 x11 x28 (wrap64 (x29 + 1)))))) else (impl_NarrowPlaces.l0 k x0 x1 x2 x3 x10 x11 x28 (wrap64 (x29 + 1)))) else (none)) else (none)))) else (some (x11, true))
def impl_NarrowPlaces.f (k : Nat) (l0 : List (S58)) (l1 : List Int) (a2 : Int) (a3 : Int) : Option (List Int × Bool) := (impl_areEnds.f k l0 l1 a2 a3).bind fun t435 => (if t435 = true then ((impl_greatest.f l0 l1 a2 a3).bind fun t436 => (if t436 = (-1) then (some (([] : List Int), false)) else (impl_NarrowPlaces.l0 k l0 l1 a2 a3 t436 ([] : List Int) (l0.length : Int) 0))) else (some (([] : List Int), false)))
theorem impl_NarrowPlaces.calls (k : Nat) (A0 : Option Addr) (c0 : Nat) (l0 : List (S58)) (A1 : Option Addr) (c1 : Nat) (l1 : List Int) (a2 : Int) (a3 : Int) (r1 : List Int) (r2 : Bool) (w : World) (hr0 : Kd.C k58 w A0 l0.length l0) (hc0 : l0.length ≤ c0) (hr1 : Kd.C (Kd.int .i64) w A1 l1.length l1) (hc1 : l1.length ≤ c1) (h : impl_NarrowPlaces.f k l0 l1 a2 a3 = some (r1, r2)) :
  Calls Try.prog 20 #[.slice A0 l0.length c0, .slice A1 l1.length c1, .int .i64 a2, .int .i64 a3] w fun e w' => ∃ v0_ : Value, e = .returned (.tuple #[v0_, .bool r2]) ∧ Kd.R (Kd.int .i64) 3 w' w.heap.size (fun _ => True) v0_ r1 ∧ Below w.heap.size w w' := by
 have HR0 := za hr0; have HC0 := za hc0; clear hr0 hc0; have HR1 := za hr1; have HC1 := za hc1; clear hr1 hc1; have HB := za (zs w.heap.size w); have H : ((impl_areEnds.f k l0 l1 a2 a3).bind fun t435 => (if t435 = true then ((impl_greatest.f l0 l1 a2 a3).bind fun t436 => (if t436 = (-1) then (some (([] : List Int), false)) else (impl_NarrowPlaces.l0 k l0 l1 a2 a3 t436 ([] : List Int) (l0.length : Int) 0))) else (some (([] : List Int), false)))) = some (r1, r2) := h; clear h; replace H := bindA H; obtain ⟨t435, A5, H⟩ := H; (try dsimp only at H)
 by_cases c6 : t435 = true
 ·subst c6; rw [yb rfl] at H; replace H := bindA H; obtain ⟨t436, A7, H⟩ := H; (try dsimp only at H)
  by_cases c8 : t436 = (-1)
  ·rw [yb c8] at H; have c8b0 : (t436 == (-1)) = true := zT c8; have c8b1 : (t436 != (-1)) = false := zy c8; clear c8; simp only [yd, ye] at H; obtain ⟨rfl, rfl⟩ := H
   go_enter Try.func20, Try.ntmps20
   go_wp2_with (first | ((with_reducible refine zp (f := 33) rfl ?_); refine zV (some 18) rfl rfl Try.func33 (qS27) rfl #[.slice A0 l0.length c0, .slice A1 l1.length c1, .int .i64 a2, .int .i64 a3] rfl (qS2) ?_; (with_reducible refine (impl_areEnds.calls k _ _ l0 _ _ l1 a2 a3 true _ ?s1 ?s2 ?s3 ?s4 A5.1).mono ?_); (case s1 => exact (qS21 HR0.1)); (case s2 => exact HC0.1); (case s3 => exact (qS21 HR1.1)); (case s4 => exact HC1.1); rintro e w9 ⟨rfl, hb⟩; refine ⟨_, rfl, ?_⟩; replace HB := za qS64; clear hb) | ((with_reducible refine zp (f := 46) rfl ?_); refine zV (some 24) rfl rfl Try.func46 (qS27) rfl #[.slice A0 l0.length c0, .slice A1 l1.length c1, .int .i64 a2, .int .i64 a3] rfl (qS2) ?_; (with_reducible refine (impl_greatest.calls _ _ l0 _ _ l1 a2 a3 t436 _ ?s1 ?s2 ?s3 ?s4 A7.1).mono ?_); (case s1 => exact (qS13 HR0.1)); (case s2 => exact HC0.1); (case s3 => exact (qS13 HR1.1)); (case s4 => exact HC1.1); rintro e w10 ⟨rfl, hb⟩; refine ⟨_, rfl, ?_⟩; replace HB := za qS64; clear hb))
   go_ret2
   exact ⟨_, (qS11), by first | exact Kd.R_nil _ _ _ _ _ | exact Kd.N_nil _ _ _ _ _ | exact Kd.V_nil _ _ _ _ _ | exact Kd.Q_nil _ _ _ _ _ | exact Kd.S_nil _ _ _ _ _, (qS0)⟩
  ·rw [yc c8] at H; have c8b0 : (t436 == (-1)) = false := zx c8; have c8b1 : (t436 != (-1)) = true := zU c8; have H' := za H; clear H
   go_enter Try.func20, Try.ntmps20
   go_wp2_with (first | ((with_reducible refine zp (f := 33) rfl ?_); refine zV (some 18) rfl rfl Try.func33 (qS27) rfl #[.slice A0 l0.length c0, .slice A1 l1.length c1, .int .i64 a2, .int .i64 a3] rfl (qS2) ?_; (with_reducible refine (impl_areEnds.calls k _ _ l0 _ _ l1 a2 a3 true _ ?s1 ?s2 ?s3 ?s4 A5.1).mono ?_); (case s1 => exact (qS21 HR0.1)); (case s2 => exact HC0.1); (case s3 => exact (qS21 HR1.1)); (case s4 => exact HC1.1); rintro e w11 ⟨rfl, hb⟩; refine ⟨_, rfl, ?_⟩; replace HB := za qS64; clear hb) | ((with_reducible refine zp (f := 46) rfl ?_); refine zV (some 24) rfl rfl Try.func46 (qS27) rfl #[.slice A0 l0.length c0, .slice A1 l1.length c1, .int .i64 a2, .int .i64 a3] rfl (qS2) ?_; (with_reducible refine (impl_greatest.calls _ _ l0 _ _ l1 a2 a3 t436 _ ?s1 ?s2 ?s3 ?s4 A7.1).mono ?_); (case s1 => exact (qS13 HR0.1)); (case s2 => exact HC0.1); (case s3 => exact (qS13 HR1.1)); (case s4 => exact HC1.1); rintro e w12 ⟨rfl, hb⟩; refine ⟨_, rfl, ?_⟩; replace HB := za qS64; clear hb))
   go_loopg [11, 29] k (fun kq v11 v29 w' => ∃ (x11_1 : List Int) (x29_1 : Int), v29 = .int .i64 x29_1 ∧ Aside0 (impl_NarrowPlaces.l0 kq l0 l1 a2 a3 t436 x11_1 (l0.length : Int) x29_1 = some (r1, r2)) ∧ Aside0 (kq ≤ k) ∧ Aside0 (Kd.R (Kd.int .i64) 3 w' w.heap.size (fun _ => True) v11 x11_1) ∧ Aside0 (Below w.heap.size w w'))
   case atStart => exact ⟨(([] : List Int)), (0), (qS16), H', ⟨zo _⟩, ⟨by first | exact Kd.R_nil _ _ _ _ _ | exact Kd.N_nil _ _ _ _ _ | exact Kd.V_nil _ _ _ _ _ | exact Kd.Q_nil _ _ _ _ _ | exact Kd.S_nil _ _ _ _ _⟩, ⟨(qS0)⟩⟩
   case round =>
    clear H'; (try clear c1); (try clear c2); (try clear p2); (try clear c3); (try clear c4); (try clear c6); (try clear c8); (try clear c8b0); (try clear c8b1); obtain ⟨x11_1, x29_1, rfl, HA, HK1, HO_11, HB⟩ := hrel
    cases gk with
    | zero => exact absurd HA.1 (by simp [impl_NarrowPlaces.l0])
    | succ k1 =>
     have H := HA.1; clear HA; simp only [impl_NarrowPlaces.l0] at H
     by_cases c13 : x29_1 < (l0.length : Int)
     ·rw [yb c13] at H; have c13b0 : decide (x29_1 < (l0.length : Int)) = true := zc c13; clear c13; replace H := bindA H; obtain ⟨t437, A14, H⟩ := H; (try dsimp only at H); replace H := bindA H; obtain ⟨t440, A15, H⟩ := H; (try dsimp only at H)
      by_cases c16 : 0 ≤ x29_1
      ·rw [yb c16] at H; have c16b0 : decide (0 ≤ x29_1) = true := zc c16; clear c16
       by_cases c17 : x29_1 < (l1.length : Int)
       ·rw [yb c17] at H; have c17b0 : decide (x29_1 < (l1.length : Int)) = true := zc c17; clear c17
        by_cases c18 : (rd l1 x29_1) = t436
        ·rw [yb c18] at H; have c18b0 : ((rd l1 x29_1) == t436) = true := zT c18; have c18b1 : ((rd l1 x29_1) != t436) = false := zy c18; clear c18; replace H := bindA H; obtain ⟨t444, A19, H⟩ := H; (try dsimp only at H); replace H := bindA H; obtain ⟨t447, A20, H⟩ := H; (try dsimp only at H)
         by_cases c21 : t447 < t436
         ·rw [yb c21] at H; have c21b0 : decide (t447 < t436) = true := zc c21; clear c21
          by_cases c22 : x11_1.length < 17592186044416
          ·rw [yb c22] at H; have LMc22 := za c22; clear c22; obtain ⟨y448, hy448⟩ : ∃ y_ : List Int, y_ = (x11_1 ++ [x29_1]) := ⟨_, rfl⟩; replace H : (impl_NarrowPlaces.l0 k1 l0 l1 a2 a3 t436 y448 (l0.length : Int) (wrap64 (x29_1 + 1))) = some (r1, r2) := (qS4 hy448); have Ny448 := za hy448; clear hy448; have H' := za H; clear H
           go_wp2_with (first | ((with_reducible refine zp (f := 36) rfl ?_); refine zV (some 33) rfl rfl Try.func36 (qS27) rfl #[.slice A1 l1.length c1] rfl (qS2) ?_; (with_reducible refine (slices_Clone_int_int.calls _ _ l1 t437 _ ?s1 ?s2 A14.1).mono ?_); (case s1 => exact (qS13 HR1.1)); (case s2 => exact HC1.1); rintro e w23 ⟨v438, rfl, ho0, hb⟩; refine ⟨_, rfl, ?_⟩; have HO439 := za (qS75 ho0 HO_11.1); replace HO_11 := za (qS67 HO_11.1 ho0); replace HB := za qS64; clear hb ho0; obtain ⟨Ao24, co24, eo24⟩ := zI HO439.1; subst eo24) | ((with_reducible refine zp (f := 54) rfl ?_); refine zV (some 37) rfl rfl Try.func54 (qS27) rfl #[.slice Ao24 t437.length co24, .int .i64 x29_1, .int .i64 (wrap64 (x29_1 + 1))] rfl (qS2) ?_; (with_reducible refine (slices_Delete_int_int.calls (fun k_ => some k_ = (.slice Ao24 t437.length co24 : Value).ownBlock) (.slice Ao24 t437.length co24) t437 x29_1 (wrap64 (x29_1 + 1)) t440 w _ ?s1 ?s2 A15.1).mono ?_); (case s1 => exact (qS0)); (case s2 => exact (by exact Kd.R_tight rfl HO439.1)); rintro e w25 ⟨v441, rfl, ho0, hb, hkp⟩; refine ⟨_, rfl, ?_⟩; have HO442 := za (zK (ok' := fun k_ => some k_ ≠ (u11 : Value).ownBlock) ho0 (fun k_ hk_ => Or.elim hk_ (fun hs_ => fun e_ => (((HO_11.1).1 k_ e_.symm).2) hs_) (fun hn_ => (Kd.fresh' (Kd.R_lt (qS1 HO_11.1)) k_ hn_)))); replace HO_11 := za (zK (ok' := fun k_ => some k_ ≠ (v441 : Value).ownBlock) (Kd.R_keptB (HO_11.1) hkp (fun k_ hk_ hs_ => (hk_.2) hs_)) (fun k_ hk_ => fun e_ => Or.elim (ho0.1 k_ e_.symm) (fun hs_ => hk_.2.1 hs_) (fun hn_ => Nat.not_le.2 hk_.2.2 hn_))); replace HB := za hb; clear HO439; clear hb ho0; have p443 : 0 ≤ (x29_1 : Int) := zb (qS8); have q443 : x29_1 < (l1.length : Int) := zb (qS8); obtain ⟨ad443, e443, hx443_0⟩ := zJ HR1.1 x29_1 p443 q443; cases e443; replace hx443_0 := (HB.1.cell (zd w _ hx443_0)).trans hx443_0; replace p443 := zw p443; replace q443 := zw q443) | (go_at_call 55; (with_reducible refine (impl_leaving.calls _ _ l0 x29_1 t444 _ ?s1 ?s2 A19.1).mono ?_); (case s1 => exact (qS13 HR0.1)); (case s2 => exact HC0.1); rintro e w26 ⟨v445, rfl, ho0, hb⟩; replace HO_11 := za (qS66 HO_11.1); replace HO442 := za (qS66 HO442.1); have HO446 := za (qS77 ho0); replace HB := za qS64; clear hb ho0; obtain ⟨Ao27, co27, eo27⟩ := zI HO446.1; subst eo27; obtain ⟨Ao28, co28, eo28⟩ := zI HO442.1; subst eo28) | (go_at_call 46; (with_reducible refine (impl_greatest.calls _ _ t444 _ _ t440 a2 a3 t447 _ ?s1 ?s2 ?s3 ?s4 A20.1).mono ?_); (case s1 => exact (qS7 HO446.1)); (case s2 => exact (qS38 HO446.1)); (case s3 => exact (qS7 HO442.1)); (case s4 => exact (qS38 HO442.1)); rintro e w29 ⟨rfl, hb⟩; replace HO_11 := za (qS66 HO_11.1); replace HO442 := za (qS66 HO442.1); replace HO446 := za (qS66 HO446.1); replace HB := za qS64; clear hb) | ((with_reducible refine zr (b := .append) (xs := #[.tmp 55, .tmp 57]) rfl ?_); at_builtin; refine Kd.R_append (Kd.int .i64) (w0 := w) w.heap.size rfl (.tmp 55) (.tmp 57) 25 3 (.int .i64 0) 8 rfl Try.underlying25 info3 rfl (by decide) (by omega) u11 x11_1 x29_1 [.int .i64 x29_1] (fun k_ => some k_ ≠ (.slice Ao28 t440.length co28 : Value).ownBlock) (fun _ => False) rfl rfl ?aP (fun _ hk => hk.elim) ?aF ?aO ?aB ?aS ?aL ?_; (case aP => exact rfl); (case aB => exact (qS0)); (case aF => exact (qS73 HO442.1)); (case aO => exact (qS1 HO_11.1)); (case aS => exact (qS82)); (case aL => have := LMc22.1; omega); intro v449 w30 ho hb hg hat; rw [← Ny448.1] at ho; replace HO442 := za (qS46 HO442.1); replace HO446 := za (qS72 HO446.1 HO_11.1); replace HB := za hb; have HO450 := za ho; clear HO_11; clear ho hb hg hat))
           go_roundg k1
           case measure => have := HK1.1; omega
           case rel => exact ⟨(y448), (wrap64 (x29_1 + 1)), (qS16), H', ⟨by have := HK1.1; omega⟩, ⟨(qS32 HO450.1)⟩, ⟨(qS0)⟩⟩
          ·rw [yc c22] at H
           exact absurd H (by simp)
         ·rw [yc c21] at H; have c21b0 : decide (t447 < t436) = false := zv c21; clear c21; have H' := za H; clear H
          go_wp2_with (first | ((with_reducible refine zp (f := 36) rfl ?_); refine zV (some 33) rfl rfl Try.func36 (qS27) rfl #[.slice A1 l1.length c1] rfl (qS2) ?_; (with_reducible refine (slices_Clone_int_int.calls _ _ l1 t437 _ ?s1 ?s2 A14.1).mono ?_); (case s1 => exact (qS13 HR1.1)); (case s2 => exact HC1.1); rintro e w31 ⟨v438, rfl, ho0, hb⟩; refine ⟨_, rfl, ?_⟩; have HO439 := za (qS75 ho0 HO_11.1); replace HO_11 := za (qS67 HO_11.1 ho0); replace HB := za qS64; clear hb ho0; obtain ⟨Ao32, co32, eo32⟩ := zI HO439.1; subst eo32) | ((with_reducible refine zp (f := 54) rfl ?_); refine zV (some 37) rfl rfl Try.func54 (qS27) rfl #[.slice Ao32 t437.length co32, .int .i64 x29_1, .int .i64 (wrap64 (x29_1 + 1))] rfl (qS2) ?_; (with_reducible refine (slices_Delete_int_int.calls (fun k_ => some k_ = (.slice Ao32 t437.length co32 : Value).ownBlock) (.slice Ao32 t437.length co32) t437 x29_1 (wrap64 (x29_1 + 1)) t440 w _ ?s1 ?s2 A15.1).mono ?_); (case s1 => exact (qS0)); (case s2 => exact (by exact Kd.R_tight rfl HO439.1)); rintro e w33 ⟨v441, rfl, ho0, hb, hkp⟩; refine ⟨_, rfl, ?_⟩; have HO442 := za (zK (ok' := fun k_ => some k_ ≠ (u11 : Value).ownBlock) ho0 (fun k_ hk_ => Or.elim hk_ (fun hs_ => fun e_ => (((HO_11.1).1 k_ e_.symm).2) hs_) (fun hn_ => (Kd.fresh' (Kd.R_lt (qS1 HO_11.1)) k_ hn_)))); replace HO_11 := za (zK (ok' := fun k_ => some k_ ≠ (v441 : Value).ownBlock) (Kd.R_keptB (HO_11.1) hkp (fun k_ hk_ hs_ => (hk_.2) hs_)) (fun k_ hk_ => fun e_ => Or.elim (ho0.1 k_ e_.symm) (fun hs_ => hk_.2.1 hs_) (fun hn_ => Nat.not_le.2 hk_.2.2 hn_))); replace HB := za hb; clear HO439; clear hb ho0; have p443 : 0 ≤ (x29_1 : Int) := zb (qS8); have q443 : x29_1 < (l1.length : Int) := zb (qS8); obtain ⟨ad443, e443, hx443_0⟩ := zJ HR1.1 x29_1 p443 q443; cases e443; replace hx443_0 := (HB.1.cell (zd w _ hx443_0)).trans hx443_0; replace p443 := zw p443; replace q443 := zw q443) | (go_at_call 55; (with_reducible refine (impl_leaving.calls _ _ l0 x29_1 t444 _ ?s1 ?s2 A19.1).mono ?_); (case s1 => exact (qS13 HR0.1)); (case s2 => exact HC0.1); rintro e w34 ⟨v445, rfl, ho0, hb⟩; replace HO_11 := za (qS66 HO_11.1); replace HO442 := za (qS66 HO442.1); have HO446 := za (qS77 ho0); replace HB := za qS64; clear hb ho0; obtain ⟨Ao35, co35, eo35⟩ := zI HO446.1; subst eo35; obtain ⟨Ao36, co36, eo36⟩ := zI HO442.1; subst eo36) | (go_at_call 46; (with_reducible refine (impl_greatest.calls _ _ t444 _ _ t440 a2 a3 t447 _ ?s1 ?s2 ?s3 ?s4 A20.1).mono ?_); (case s1 => exact (qS7 HO446.1)); (case s2 => exact (qS38 HO446.1)); (case s3 => exact (qS7 HO442.1)); (case s4 => exact (qS38 HO442.1)); rintro e w37 ⟨rfl, hb⟩; replace HO_11 := za (qS66 HO_11.1); replace HO442 := za (qS66 HO442.1); replace HO446 := za (qS66 HO446.1); replace HB := za qS64; clear hb))
          go_roundg k1
          case measure => have := HK1.1; omega
          case rel => exact ⟨(x11_1), (wrap64 (x29_1 + 1)), (qS16), H', ⟨by have := HK1.1; omega⟩, ⟨(qS32 HO_11.1)⟩, ⟨(qS0)⟩⟩
        ·rw [yc c18] at H; have c18b0 : ((rd l1 x29_1) == t436) = false := zx c18; have c18b1 : ((rd l1 x29_1) != t436) = true := zU c18; have H' := za H; clear H
         go_wp2_with (first | ((with_reducible refine zp (f := 36) rfl ?_); refine zV (some 33) rfl rfl Try.func36 (qS27) rfl #[.slice A1 l1.length c1] rfl (qS2) ?_; (with_reducible refine (slices_Clone_int_int.calls _ _ l1 t437 _ ?s1 ?s2 A14.1).mono ?_); (case s1 => exact (qS13 HR1.1)); (case s2 => exact HC1.1); rintro e w38 ⟨v438, rfl, ho0, hb⟩; refine ⟨_, rfl, ?_⟩; have HO439 := za (qS75 ho0 HO_11.1); replace HO_11 := za (qS67 HO_11.1 ho0); replace HB := za qS64; clear hb ho0; obtain ⟨Ao39, co39, eo39⟩ := zI HO439.1; subst eo39) | ((with_reducible refine zp (f := 54) rfl ?_); refine zV (some 37) rfl rfl Try.func54 (qS27) rfl #[.slice Ao39 t437.length co39, .int .i64 x29_1, .int .i64 (wrap64 (x29_1 + 1))] rfl (qS2) ?_; (with_reducible refine (slices_Delete_int_int.calls (fun k_ => some k_ = (.slice Ao39 t437.length co39 : Value).ownBlock) (.slice Ao39 t437.length co39) t437 x29_1 (wrap64 (x29_1 + 1)) t440 w _ ?s1 ?s2 A15.1).mono ?_); (case s1 => exact (qS0)); (case s2 => exact (by exact Kd.R_tight rfl HO439.1)); rintro e w40 ⟨v441, rfl, ho0, hb, hkp⟩; refine ⟨_, rfl, ?_⟩; have HO442 := za (zK (ok' := fun k_ => some k_ ≠ (u11 : Value).ownBlock) ho0 (fun k_ hk_ => Or.elim hk_ (fun hs_ => fun e_ => (((HO_11.1).1 k_ e_.symm).2) hs_) (fun hn_ => (Kd.fresh' (Kd.R_lt (qS1 HO_11.1)) k_ hn_)))); replace HO_11 := za (zK (ok' := fun k_ => some k_ ≠ (v441 : Value).ownBlock) (Kd.R_keptB (HO_11.1) hkp (fun k_ hk_ hs_ => (hk_.2) hs_)) (fun k_ hk_ => fun e_ => Or.elim (ho0.1 k_ e_.symm) (fun hs_ => hk_.2.1 hs_) (fun hn_ => Nat.not_le.2 hk_.2.2 hn_))); replace HB := za hb; clear HO439; clear hb ho0; have p443 : 0 ≤ (x29_1 : Int) := zb (qS8); have q443 : x29_1 < (l1.length : Int) := zb (qS8); obtain ⟨ad443, e443, hx443_0⟩ := zJ HR1.1 x29_1 p443 q443; cases e443; replace hx443_0 := (HB.1.cell (zd w _ hx443_0)).trans hx443_0; replace p443 := zw p443; replace q443 := zw q443))
         go_roundg k1
         case measure => have := HK1.1; omega
         case rel => exact ⟨(x11_1), (wrap64 (x29_1 + 1)), (qS16), H', ⟨by have := HK1.1; omega⟩, ⟨(qS32 HO_11.1)⟩, ⟨(qS0)⟩⟩
       ·rw [yc c17] at H
        exact absurd H (by simp)
      ·rw [yc c16] at H
       exact absurd H (by simp)
     ·rw [yc c13] at H; have c13b0 : decide (x29_1 < (l0.length : Int)) = false := zv c13; clear c13; simp only [yd, ye] at H; obtain ⟨rfl, rfl⟩ := H
      go_wp2
      go_ret2
      exact ⟨_, (qS11), (qS1 HO_11.1), (qS0)⟩
 ·replace c6 := zn c6; subst c6; rw [yc (show ¬ (false = true) by decide)] at H; simp only [yd, ye] at H; obtain ⟨rfl, rfl⟩ := H
  go_enter Try.func20, Try.ntmps20
  go_wp2_with (first | ((with_reducible refine zp (f := 33) rfl ?_); refine zV (some 18) rfl rfl Try.func33 (qS27) rfl #[.slice A0 l0.length c0, .slice A1 l1.length c1, .int .i64 a2, .int .i64 a3] rfl (qS2) ?_; (with_reducible refine (impl_areEnds.calls k _ _ l0 _ _ l1 a2 a3 false _ ?s1 ?s2 ?s3 ?s4 A5.1).mono ?_); (case s1 => exact (qS21 HR0.1)); (case s2 => exact HC0.1); (case s3 => exact (qS21 HR1.1)); (case s4 => exact HC1.1); rintro e w41 ⟨rfl, hb⟩; refine ⟨_, rfl, ?_⟩; replace HB := za qS64; clear hb))
  go_ret2
  exact ⟨_, (qS11), by first | exact Kd.R_nil _ _ _ _ _ | exact Kd.N_nil _ _ _ _ _ | exact Kd.V_nil _ _ _ _ _ | exact Kd.Q_nil _ _ _ _ _ | exact Kd.S_nil _ _ _ _ _, (qS0)⟩

def spec_l12Far.f (a0 : Int) : Option (Bool) := (spec_l1In.f a0 0 200).bind fun t451 => (some t451)
theorem spec_l12Far.calls (a0 : Int) (r : Bool) (w : World) (h : spec_l12Far.f a0 = some r) :
  Calls Try.prog 40 #[.int .i64 a0] w fun e w' => e = .returned (.bool r) ∧ Drawn0 w w' := by
 have H : ((spec_l1In.f a0 0 200).bind fun t451 => (some t451)) = some r := h; clear h; replace H := zC H; obtain ⟨t451, A20, H⟩ := H; replace H : (some t451) = some r := H; have A2 := za A20; clear A20; obtain rfl := zm H
 go_enter Try.func40, Try.ntmps40
 go_wp2_with (first | ((with_reducible refine zp (f := 69) rfl ?_); refine zV (some 4) rfl rfl Try.func69 (qS27) rfl #[.int .i64 a0, .int .i64 0, .int .i64 200] rfl (qS2) ?_; (with_reducible refine (spec_l1In.calls a0 0 200 t451 _ A2.1).mono ?_); rintro e w' ⟨rfl, ⟨nd, rfl⟩⟩; refine ⟨_, rfl, ?_⟩))
 go_ret
 exact ⟨(qS16), (qS30)⟩

def spec_l4Station.f (a0 : Int) : Option (Bool) := (spec_l1In.f a0 0 7).bind fun t452 => (some t452)
theorem spec_l4Station.calls (a0 : Int) (r : Bool) (w : World) (h : spec_l4Station.f a0 = some r) :
  Calls Try.prog 68 #[.int .i64 a0] w fun e w' => e = .returned (.bool r) ∧ Drawn0 w w' := by
 have H : ((spec_l1In.f a0 0 7).bind fun t452 => (some t452)) = some r := h; clear h; replace H := zC H; obtain ⟨t452, A20, H⟩ := H; replace H : (some t452) = some r := H; have A2 := za A20; clear A20; obtain rfl := zm H
 go_enter Try.func68, Try.ntmps68
 go_wp2_with (first | ((with_reducible refine zp (f := 69) rfl ?_); refine zV (some 4) rfl rfl Try.func69 (qS27) rfl #[.int .i64 a0, .int .i64 0, .int .i64 7] rfl (qS2) ?_; (with_reducible refine (spec_l1In.calls a0 0 7 t452 _ A2.1).mono ?_); rintro e w' ⟨rfl, ⟨nd, rfl⟩⟩; refine ⟨_, rfl, ?_⟩))
 go_ret
 exact ⟨(qS16), (qS30)⟩

def spec_l2Bearing.f (a0 : Int) : Option (Bool) := (spec_l1In.f a0 0 359).bind fun t453 => (some t453)
theorem spec_l2Bearing.calls (a0 : Int) (r : Bool) (w : World) (h : spec_l2Bearing.f a0 = some r) :
  Calls Try.prog 98 #[.int .i64 a0] w fun e w' => e = .returned (.bool r) ∧ Drawn0 w w' := by
 have H : ((spec_l1In.f a0 0 359).bind fun t453 => (some t453)) = some r := h; clear h; replace H := zC H; obtain ⟨t453, A20, H⟩ := H; replace H : (some t453) = some r := H; have A2 := za A20; clear A20; obtain rfl := zm H
 go_enter Try.func98, Try.ntmps98
 go_wp2_with (first | ((with_reducible refine zp (f := 69) rfl ?_); refine zV (some 4) rfl rfl Try.func69 (qS27) rfl #[.int .i64 a0, .int .i64 0, .int .i64 359] rfl (qS2) ?_; (with_reducible refine (spec_l1In.calls a0 0 359 t453 _ A2.1).mono ?_); rintro e w' ⟨rfl, ⟨nd, rfl⟩⟩; refine ⟨_, rfl, ?_⟩))
 go_ret
 exact ⟨(qS16), (qS30)⟩

def spec_l4Leg.f (a0_0 : Int) (a0_1 : Int) (a0_2 : Int) (a0_3 : Int) (a0_4 : Int) : Option (Bool) := (spec_l4Station.f a0_0).bind fun t455 => (if t455 = true then ((spec_l4Station.f a0_1).bind fun t456 => (if t456 = true then (if a0_0 = a0_1 then (some false) else ((spec_l1In.f a0_2 1 500).bind fun t457 => (if t457 = true then ((spec_l2Bearing.f a0_3).bind fun t458 => (if t458 = true then ((spec_l1In.f a0_4 (-90) 90).bind fun t459 => (some t459)) else (some false))) else (some false)))) else (some false))) else (some false))
theorem spec_l4Leg.calls (a0_0 : Int) (a0_1 : Int) (a0_2 : Int) (a0_3 : Int) (a0_4 : Int) (r : Bool) (w : World) (h : spec_l4Leg.f a0_0 a0_1 a0_2 a0_3 a0_4 = some r) :
  Calls Try.prog 91 #[.agg #[.int .i64 a0_0, .int .i64 a0_1, .int .i64 a0_2, .int .i64 a0_3, .int .i64 a0_4]] w fun e w' => e = .returned (.bool r) ∧ Below w.heap.size w w' := by
 have hu58 := Try.underlying58; have HB := za (zs w.heap.size w); have H : ((spec_l4Station.f a0_0).bind fun t455 => (if t455 = true then ((spec_l4Station.f a0_1).bind fun t456 => (if t456 = true then (if a0_0 = a0_1 then (some false) else ((spec_l1In.f a0_2 1 500).bind fun t457 => (if t457 = true then ((spec_l2Bearing.f a0_3).bind fun t458 => (if t458 = true then ((spec_l1In.f a0_4 (-90) 90).bind fun t459 => (some t459)) else (some false))) else (some false)))) else (some false))) else (some false))) = some r := h; clear h; replace H := bindA H; obtain ⟨t455, A2, H⟩ := H; (try dsimp only at H)
 by_cases c3 : t455 = true
 ·subst c3; rw [yb rfl] at H; replace H := bindA H; obtain ⟨t456, A4, H⟩ := H; (try dsimp only at H)
  by_cases c5 : t456 = true
  ·subst c5; rw [yb rfl] at H
   by_cases c6 : a0_0 = a0_1
   ·rw [yb c6] at H; have c6b0 : (a0_0 == a0_1) = true := zT c6; have c6b1 : (a0_0 != a0_1) = false := zy c6; clear c6; obtain rfl := zm H
    go_enter Try.func91, Try.ntmps91
    go_wp2_with (first | ((with_reducible refine zq (N := 1) rfl ?_); refine zB ?hg (N := 1) ?hd (cs := #[.int .i64 a0_0, .int .i64 a0_1, .int .i64 a0_2, .int .i64 a0_3, .int .i64 a0_4]) (t := 58) ?hr ?_; (case hd | hg => rfl); (case hr => exact (qS26)); intro gb454 hg w7 hbox hb; have BK454 := za hbox; have GW454 := za qS83; have GE454 := za qS83; replace HB := za qS64; clear hb hbox hg; have hcz8_0 : w7.cell? ⟨gb454, 0, none⟩ = some (.int .i64 a0_0) := (zf BK454.1 0).trans rfl; have hcz8_1 : w7.cell? ⟨gb454, 1, none⟩ = some (.int .i64 a0_1) := (zf BK454.1 1).trans rfl; have hcz8_2 : w7.cell? ⟨gb454, 2, none⟩ = some (.int .i64 a0_2) := (zf BK454.1 2).trans rfl; have hcz8_3 : w7.cell? ⟨gb454, 3, none⟩ = some (.int .i64 a0_3) := (zf BK454.1 3).trans rfl; have hcz8_4 : w7.cell? ⟨gb454, 4, none⟩ = some (.int .i64 a0_4) := (zf BK454.1 4).trans rfl; have hfz8_0 := ze BK454.1 0; have hfz8_1 := ze BK454.1 1; have hfz8_2 := ze BK454.1 2; have hfz8_3 := ze BK454.1 3; have hfz8_4 := ze BK454.1 4) | ((with_reducible refine zp (f := 68) rfl ?_); refine zV (some 5) rfl rfl Try.func68 (qS27) rfl #[.int .i64 a0_0] rfl (qS2) ?_; (with_reducible refine (spec_l4Station.calls a0_0 true _ A2.1).mono ?_); rintro e w' ⟨rfl, ⟨nd, rfl⟩⟩; refine ⟨_, rfl, ?_⟩) | (go_at_call 68; (with_reducible refine (spec_l4Station.calls a0_1 true _ A4.1).mono ?_); rintro e w' ⟨rfl, ⟨nd, rfl⟩⟩))
    go_ret
    exact ⟨(qS11), (qS25 GE454.1)⟩
   ·rw [yc c6] at H; have c6b0 : (a0_0 == a0_1) = false := zx c6; have c6b1 : (a0_0 != a0_1) = true := zU c6; replace H := bindA H; obtain ⟨t457, A9, H⟩ := H; (try dsimp only at H)
    by_cases c10 : t457 = true
    ·subst c10; rw [yb rfl] at H; replace H := bindA H; obtain ⟨t458, A11, H⟩ := H; (try dsimp only at H)
     by_cases c12 : t458 = true
     ·subst c12; rw [yb rfl] at H; replace H := zC H; obtain ⟨t459, A130, H⟩ := H; replace H : (some t459) = some r := H; have A13 := za A130; clear A130; obtain rfl := zm H
      go_enter Try.func91, Try.ntmps91
      go_wp2_with (first | ((with_reducible refine zq (N := 1) rfl ?_); refine zB ?hg (N := 1) ?hd (cs := #[.int .i64 a0_0, .int .i64 a0_1, .int .i64 a0_2, .int .i64 a0_3, .int .i64 a0_4]) (t := 58) ?hr ?_; (case hd | hg => rfl); (case hr => exact (qS26)); intro gb454 hg w14 hbox hb; have BK454 := za hbox; have GW454 := za qS83; have GE454 := za qS83; replace HB := za qS64; clear hb hbox hg; have hcz15_0 : w14.cell? ⟨gb454, 0, none⟩ = some (.int .i64 a0_0) := (zf BK454.1 0).trans rfl; have hcz15_1 : w14.cell? ⟨gb454, 1, none⟩ = some (.int .i64 a0_1) := (zf BK454.1 1).trans rfl; have hcz15_2 : w14.cell? ⟨gb454, 2, none⟩ = some (.int .i64 a0_2) := (zf BK454.1 2).trans rfl; have hcz15_3 : w14.cell? ⟨gb454, 3, none⟩ = some (.int .i64 a0_3) := (zf BK454.1 3).trans rfl; have hcz15_4 : w14.cell? ⟨gb454, 4, none⟩ = some (.int .i64 a0_4) := (zf BK454.1 4).trans rfl; have hfz15_0 := ze BK454.1 0; have hfz15_1 := ze BK454.1 1; have hfz15_2 := ze BK454.1 2; have hfz15_3 := ze BK454.1 3; have hfz15_4 := ze BK454.1 4) | ((with_reducible refine zp (f := 68) rfl ?_); refine zV (some 5) rfl rfl Try.func68 (qS27) rfl #[.int .i64 a0_0] rfl (qS2) ?_; (with_reducible refine (spec_l4Station.calls a0_0 true _ A2.1).mono ?_); rintro e w' ⟨rfl, ⟨nd, rfl⟩⟩; refine ⟨_, rfl, ?_⟩) | (go_at_call 68; (with_reducible refine (spec_l4Station.calls a0_1 true _ A4.1).mono ?_); rintro e w' ⟨rfl, ⟨nd, rfl⟩⟩) | (go_at_call 69; (with_reducible refine (spec_l1In.calls a0_2 1 500 true _ A9.1).mono ?_); rintro e w' ⟨rfl, ⟨nd, rfl⟩⟩) | (go_at_call 98; (with_reducible refine (spec_l2Bearing.calls a0_3 true _ A11.1).mono ?_); rintro e w' ⟨rfl, ⟨nd, rfl⟩⟩) | (go_at_call 69; (with_reducible refine (spec_l1In.calls a0_4 (-90) 90 t459 _ A13.1).mono ?_); rintro e w' ⟨rfl, ⟨nd, rfl⟩⟩))
      go_ret
      exact ⟨(qS11), (qS25 GE454.1)⟩
     ·replace c12 := zn c12; subst c12; rw [yc (show ¬ (false = true) by decide)] at H; obtain rfl := zm H
      go_enter Try.func91, Try.ntmps91
      go_wp2_with (first | ((with_reducible refine zq (N := 1) rfl ?_); refine zB ?hg (N := 1) ?hd (cs := #[.int .i64 a0_0, .int .i64 a0_1, .int .i64 a0_2, .int .i64 a0_3, .int .i64 a0_4]) (t := 58) ?hr ?_; (case hd | hg => rfl); (case hr => exact (qS26)); intro gb454 hg w16 hbox hb; have BK454 := za hbox; have GW454 := za qS83; have GE454 := za qS83; replace HB := za qS64; clear hb hbox hg; have hcz17_0 : w16.cell? ⟨gb454, 0, none⟩ = some (.int .i64 a0_0) := (zf BK454.1 0).trans rfl; have hcz17_1 : w16.cell? ⟨gb454, 1, none⟩ = some (.int .i64 a0_1) := (zf BK454.1 1).trans rfl; have hcz17_2 : w16.cell? ⟨gb454, 2, none⟩ = some (.int .i64 a0_2) := (zf BK454.1 2).trans rfl; have hcz17_3 : w16.cell? ⟨gb454, 3, none⟩ = some (.int .i64 a0_3) := (zf BK454.1 3).trans rfl; have hcz17_4 : w16.cell? ⟨gb454, 4, none⟩ = some (.int .i64 a0_4) := (zf BK454.1 4).trans rfl; have hfz17_0 := ze BK454.1 0; have hfz17_1 := ze BK454.1 1; have hfz17_2 := ze BK454.1 2; have hfz17_3 := ze BK454.1 3; have hfz17_4 := ze BK454.1 4) | ((with_reducible refine zp (f := 68) rfl ?_); refine zV (some 5) rfl rfl Try.func68 (qS27) rfl #[.int .i64 a0_0] rfl (qS2) ?_; (with_reducible refine (spec_l4Station.calls a0_0 true _ A2.1).mono ?_); rintro e w' ⟨rfl, ⟨nd, rfl⟩⟩; refine ⟨_, rfl, ?_⟩) | (go_at_call 68; (with_reducible refine (spec_l4Station.calls a0_1 true _ A4.1).mono ?_); rintro e w' ⟨rfl, ⟨nd, rfl⟩⟩) | (go_at_call 69; (with_reducible refine (spec_l1In.calls a0_2 1 500 true _ A9.1).mono ?_); rintro e w' ⟨rfl, ⟨nd, rfl⟩⟩) | (go_at_call 98; (with_reducible refine (spec_l2Bearing.calls a0_3 false _ A11.1).mono ?_); rintro e w' ⟨rfl, ⟨nd, rfl⟩⟩))
      go_ret
      exact ⟨(qS11), (qS25 GE454.1)⟩
    ·replace c10 := zn c10; subst c10; rw [yc (show ¬ (false = true) by decide)] at H; obtain rfl := zm H
     go_enter Try.func91, Try.ntmps91
     go_wp2_with (first | ((with_reducible refine zq (N := 1) rfl ?_); refine zB ?hg (N := 1) ?hd (cs := #[.int .i64 a0_0, .int .i64 a0_1, .int .i64 a0_2, .int .i64 a0_3, .int .i64 a0_4]) (t := 58) ?hr ?_; (case hd | hg => rfl); (case hr => exact (qS26)); intro gb454 hg w18 hbox hb; have BK454 := za hbox; have GW454 := za qS83; have GE454 := za qS83; replace HB := za qS64; clear hb hbox hg; have hcz19_0 : w18.cell? ⟨gb454, 0, none⟩ = some (.int .i64 a0_0) := (zf BK454.1 0).trans rfl; have hcz19_1 : w18.cell? ⟨gb454, 1, none⟩ = some (.int .i64 a0_1) := (zf BK454.1 1).trans rfl; have hcz19_2 : w18.cell? ⟨gb454, 2, none⟩ = some (.int .i64 a0_2) := (zf BK454.1 2).trans rfl; have hcz19_3 : w18.cell? ⟨gb454, 3, none⟩ = some (.int .i64 a0_3) := (zf BK454.1 3).trans rfl; have hcz19_4 : w18.cell? ⟨gb454, 4, none⟩ = some (.int .i64 a0_4) := (zf BK454.1 4).trans rfl; have hfz19_0 := ze BK454.1 0; have hfz19_1 := ze BK454.1 1; have hfz19_2 := ze BK454.1 2; have hfz19_3 := ze BK454.1 3; have hfz19_4 := ze BK454.1 4) | ((with_reducible refine zp (f := 68) rfl ?_); refine zV (some 5) rfl rfl Try.func68 (qS27) rfl #[.int .i64 a0_0] rfl (qS2) ?_; (with_reducible refine (spec_l4Station.calls a0_0 true _ A2.1).mono ?_); rintro e w' ⟨rfl, ⟨nd, rfl⟩⟩; refine ⟨_, rfl, ?_⟩) | (go_at_call 68; (with_reducible refine (spec_l4Station.calls a0_1 true _ A4.1).mono ?_); rintro e w' ⟨rfl, ⟨nd, rfl⟩⟩) | (go_at_call 69; (with_reducible refine (spec_l1In.calls a0_2 1 500 false _ A9.1).mono ?_); rintro e w' ⟨rfl, ⟨nd, rfl⟩⟩))
     go_ret
     exact ⟨(qS11), (qS25 GE454.1)⟩
  ·replace c5 := zn c5; subst c5; rw [yc (show ¬ (false = true) by decide)] at H; obtain rfl := zm H
   go_enter Try.func91, Try.ntmps91
   go_wp2_with (first | ((with_reducible refine zq (N := 1) rfl ?_); refine zB ?hg (N := 1) ?hd (cs := #[.int .i64 a0_0, .int .i64 a0_1, .int .i64 a0_2, .int .i64 a0_3, .int .i64 a0_4]) (t := 58) ?hr ?_; (case hd | hg => rfl); (case hr => exact (qS26)); intro gb454 hg w20 hbox hb; have BK454 := za hbox; have GW454 := za qS83; have GE454 := za qS83; replace HB := za qS64; clear hb hbox hg; have hcz21_0 : w20.cell? ⟨gb454, 0, none⟩ = some (.int .i64 a0_0) := (zf BK454.1 0).trans rfl; have hcz21_1 : w20.cell? ⟨gb454, 1, none⟩ = some (.int .i64 a0_1) := (zf BK454.1 1).trans rfl; have hcz21_2 : w20.cell? ⟨gb454, 2, none⟩ = some (.int .i64 a0_2) := (zf BK454.1 2).trans rfl; have hcz21_3 : w20.cell? ⟨gb454, 3, none⟩ = some (.int .i64 a0_3) := (zf BK454.1 3).trans rfl; have hcz21_4 : w20.cell? ⟨gb454, 4, none⟩ = some (.int .i64 a0_4) := (zf BK454.1 4).trans rfl; have hfz21_0 := ze BK454.1 0; have hfz21_1 := ze BK454.1 1; have hfz21_2 := ze BK454.1 2; have hfz21_3 := ze BK454.1 3; have hfz21_4 := ze BK454.1 4) | ((with_reducible refine zp (f := 68) rfl ?_); refine zV (some 5) rfl rfl Try.func68 (qS27) rfl #[.int .i64 a0_0] rfl (qS2) ?_; (with_reducible refine (spec_l4Station.calls a0_0 true _ A2.1).mono ?_); rintro e w' ⟨rfl, ⟨nd, rfl⟩⟩; refine ⟨_, rfl, ?_⟩) | (go_at_call 68; (with_reducible refine (spec_l4Station.calls a0_1 false _ A4.1).mono ?_); rintro e w' ⟨rfl, ⟨nd, rfl⟩⟩))
   go_ret
   exact ⟨(qS11), (qS25 GE454.1)⟩
 ·replace c3 := zn c3; subst c3; rw [yc (show ¬ (false = true) by decide)] at H; obtain rfl := zm H
  go_enter Try.func91, Try.ntmps91
  go_wp2_with (first | ((with_reducible refine zq (N := 1) rfl ?_); refine zB ?hg (N := 1) ?hd (cs := #[.int .i64 a0_0, .int .i64 a0_1, .int .i64 a0_2, .int .i64 a0_3, .int .i64 a0_4]) (t := 58) ?hr ?_; (case hd | hg => rfl); (case hr => exact (qS26)); intro gb454 hg w22 hbox hb; have BK454 := za hbox; have GW454 := za qS83; have GE454 := za qS83; replace HB := za qS64; clear hb hbox hg; have hcz23_0 : w22.cell? ⟨gb454, 0, none⟩ = some (.int .i64 a0_0) := (zf BK454.1 0).trans rfl; have hcz23_1 : w22.cell? ⟨gb454, 1, none⟩ = some (.int .i64 a0_1) := (zf BK454.1 1).trans rfl; have hcz23_2 : w22.cell? ⟨gb454, 2, none⟩ = some (.int .i64 a0_2) := (zf BK454.1 2).trans rfl; have hcz23_3 : w22.cell? ⟨gb454, 3, none⟩ = some (.int .i64 a0_3) := (zf BK454.1 3).trans rfl; have hcz23_4 : w22.cell? ⟨gb454, 4, none⟩ = some (.int .i64 a0_4) := (zf BK454.1 4).trans rfl; have hfz23_0 := ze BK454.1 0; have hfz23_1 := ze BK454.1 1; have hfz23_2 := ze BK454.1 2; have hfz23_3 := ze BK454.1 3; have hfz23_4 := ze BK454.1 4) | ((with_reducible refine zp (f := 68) rfl ?_); refine zV (some 5) rfl rfl Try.func68 (qS27) rfl #[.int .i64 a0_0] rfl (qS2) ?_; (with_reducible refine (spec_l4Station.calls a0_0 false _ A2.1).mono ?_); rintro e w' ⟨rfl, ⟨nd, rfl⟩⟩; refine ⟨_, rfl, ?_⟩))
  go_ret
  exact ⟨(qS11), (qS25 GE454.1)⟩

def spec_l4Legs.l0 : Nat → List (S58) → Int → Option (Bool)
 | 0, _, _ => none
 | k + 1, x0, x3 => if x3 < (x0.length : Int) then (if 0 ≤ x3 then ((spec_l4Leg.f ((rd_T58 x0 x3).f0) ((rd_T58 x0 x3).f1) ((rd_T58 x0 x3).f2) ((rd_T58 x0 x3).f3) ((rd_T58 x0 x3).f4)).bind fun t461 => (if t461 = true then (spec_l4Legs.l0 k x0 (wrap64 (x3 + 1))) else (some false))) else (none)) else (some (decide ((x0.length : Int) ≤ 12)))
def spec_l4Legs.f (k : Nat) (l0 : List (S58)) : Option (Bool) := spec_l4Legs.l0 k l0 0
theorem spec_l4Legs.calls (k : Nat) (A0 : Option Addr) (c0 : Nat) (l0 : List (S58)) (r : Bool) (w : World) (hr0 : Kd.C k58 w A0 l0.length l0) (hc0 : l0.length ≤ c0) (h : spec_l4Legs.f k l0 = some r) :
  Calls Try.prog 75 #[.slice A0 l0.length c0] w fun e w' => e = .returned (.bool r) ∧ Below w.heap.size w w' := by
 have hu58 := Try.underlying58; have HR0 := za hr0; have HC0 := za hc0; clear hr0 hc0; have HB := za (zs w.heap.size w); have H : (spec_l4Legs.l0 k l0 0) = some r := h; clear h; have H' := za H; clear H
 go_enter Try.func75, Try.ntmps75
 go_wp2
 go_loopg [3] k (fun kq v3 w' => ∃ (x3_1 : Int), v3 = .int .i64 x3_1 ∧ Aside0 (spec_l4Legs.l0 kq l0 x3_1 = some r) ∧ Aside0 (kq ≤ k) ∧ Aside0 (Below w.heap.size w w'))
 case atStart => exact ⟨(0), (qS16), H', ⟨zo _⟩, ⟨(qS0)⟩⟩
 case round =>
  clear H'; obtain ⟨x3_1, rfl, HA, HK1, HB⟩ := hrel
  cases gk with
  | zero => exact absurd HA.1 (by simp [spec_l4Legs.l0])
  | succ k1 =>
   have H := HA.1; clear HA; simp only [spec_l4Legs.l0] at H
   by_cases c2 : x3_1 < (l0.length : Int)
   ·rw [yb c2] at H; have c2b0 : decide (x3_1 < (l0.length : Int)) = true := zc c2; clear c2
    by_cases c3 : 0 ≤ x3_1
    ·rw [yb c3] at H; have c3b0 : decide (0 ≤ x3_1) = true := zc c3; clear c3; replace H := bindA H; obtain ⟨t461, A4, H⟩ := H; (try dsimp only at H)
     by_cases c5 : t461 = true
     ·subst c5; rw [yb rfl] at H; have H' := za H; clear H; have p460 : 0 ≤ (x3_1 : Int) := zb (qS8); have q460 : x3_1 < (l0.length : Int) := zb (qS8); obtain ⟨ad460, e460, hx460_0, hx460_1, hx460_2, hx460_3, hx460_4⟩ := at_T58 HR0.1 x3_1 p460 q460; cases e460; replace hx460_0 := (HB.1.cell (zd w _ hx460_0)).trans hx460_0; replace hx460_1 := (HB.1.cell (zd w _ hx460_1)).trans hx460_1; replace hx460_2 := (HB.1.cell (zd w _ hx460_2)).trans hx460_2; replace hx460_3 := (HB.1.cell (zd w _ hx460_3)).trans hx460_3; replace hx460_4 := (HB.1.cell (zd w _ hx460_4)).trans hx460_4; replace p460 := zw p460; replace q460 := zw q460
      go_wp2_with (first | ((with_reducible refine zp (f := 91) rfl ?_); refine zV (some 14) rfl rfl Try.func91 (qS27) rfl #[.agg #[.int .i64 ((rd_T58 l0 x3_1).f0), .int .i64 ((rd_T58 l0 x3_1).f1), .int .i64 ((rd_T58 l0 x3_1).f2), .int .i64 ((rd_T58 l0 x3_1).f3), .int .i64 ((rd_T58 l0 x3_1).f4)]] rfl (qS2) ?_; (with_reducible refine (spec_l4Leg.calls ((rd_T58 l0 x3_1).f0) ((rd_T58 l0 x3_1).f1) ((rd_T58 l0 x3_1).f2) ((rd_T58 l0 x3_1).f3) ((rd_T58 l0 x3_1).f4) true _ A4.1).mono ?_); rintro e w6 ⟨rfl, hb⟩; refine ⟨_, rfl, ?_⟩; replace HB := za qS64; clear hb))
      go_roundg k1
      case measure => have := HK1.1; omega
      case rel => exact ⟨(wrap64 (x3_1 + 1)), (qS16), H', ⟨by have := HK1.1; omega⟩, ⟨(qS0)⟩⟩
     ·replace c5 := zn c5; subst c5; rw [yc (show ¬ (false = true) by decide)] at H; obtain rfl := zm H; have p460 : 0 ≤ (x3_1 : Int) := zb (qS8); have q460 : x3_1 < (l0.length : Int) := zb (qS8); obtain ⟨ad460, e460, hx460_0, hx460_1, hx460_2, hx460_3, hx460_4⟩ := at_T58 HR0.1 x3_1 p460 q460; cases e460; replace hx460_0 := (HB.1.cell (zd w _ hx460_0)).trans hx460_0; replace hx460_1 := (HB.1.cell (zd w _ hx460_1)).trans hx460_1; replace hx460_2 := (HB.1.cell (zd w _ hx460_2)).trans hx460_2; replace hx460_3 := (HB.1.cell (zd w _ hx460_3)).trans hx460_3; replace hx460_4 := (HB.1.cell (zd w _ hx460_4)).trans hx460_4; replace p460 := zw p460; replace q460 := zw q460
      go_wp2_with (first | ((with_reducible refine zp (f := 91) rfl ?_); refine zV (some 14) rfl rfl Try.func91 (qS27) rfl #[.agg #[.int .i64 ((rd_T58 l0 x3_1).f0), .int .i64 ((rd_T58 l0 x3_1).f1), .int .i64 ((rd_T58 l0 x3_1).f2), .int .i64 ((rd_T58 l0 x3_1).f3), .int .i64 ((rd_T58 l0 x3_1).f4)]] rfl (qS2) ?_; (with_reducible refine (spec_l4Leg.calls ((rd_T58 l0 x3_1).f0) ((rd_T58 l0 x3_1).f1) ((rd_T58 l0 x3_1).f2) ((rd_T58 l0 x3_1).f3) ((rd_T58 l0 x3_1).f4) false _ A4.1).mono ?_); rintro e w7 ⟨rfl, hb⟩; refine ⟨_, rfl, ?_⟩; replace HB := za qS64; clear hb))
      go_ret
      exact ⟨(qS11), (qS0)⟩
    ·rw [yc c3] at H
     exact absurd H (by simp)
   ·rw [yc c2] at H; have c2b0 : decide (x3_1 < (l0.length : Int)) = false := zv c2; clear c2; obtain rfl := zm H
    go_wp2
    go_ret
    exact ⟨(qS11), (qS0)⟩

def spec_l15Good.l0 : Nat → List (S58) → List Int → Int → Option (Bool)
 | 0, _, _, _ => none
 | k + 1, x0, x1, x5 => if x5 < (x1.length : Int) then (if 0 ≤ x5 then ((spec_l12Far.f (rd x1 x5)).bind fun t463 => (if t463 = true then (spec_l15Good.l0 k x0 x1 (wrap64 (x5 + 1))) else (some false))) else (none)) else ((spec_l4Legs.f k x0).bind fun t464 => (if t464 = true then (some ((x1.length : Int) == (x0.length : Int))) else (some false)))
def spec_l15Good.f (k : Nat) (l0 : List (S58)) (l1 : List Int) : Option (Bool) := spec_l15Good.l0 k l0 l1 0
theorem spec_l15Good.calls (k : Nat) (A0 : Option Addr) (c0 : Nat) (l0 : List (S58)) (A1 : Option Addr) (c1 : Nat) (l1 : List Int) (r : Bool) (w : World) (hr0 : Kd.C k58 w A0 l0.length l0) (hc0 : l0.length ≤ c0) (hr1 : Kd.C (Kd.int .i64) w A1 l1.length l1) (hc1 : l1.length ≤ c1) (h : spec_l15Good.f k l0 l1 = some r) :
  Calls Try.prog 45 #[.slice A0 l0.length c0, .slice A1 l1.length c1] w fun e w' => e = .returned (.bool r) ∧ Below w.heap.size w w' := by
 have HR0 := za hr0; have HC0 := za hc0; clear hr0 hc0; have HR1 := za hr1; have HC1 := za hc1; clear hr1 hc1; have HB := za (zs w.heap.size w); have H : (spec_l15Good.l0 k l0 l1 0) = some r := h; clear h; have H' := za H; clear H
 go_enter Try.func45, Try.ntmps45
 go_wp2
 go_loopg [5] k (fun kq v5 w' => ∃ (x5_1 : Int), v5 = .int .i64 x5_1 ∧ Aside0 (spec_l15Good.l0 kq l0 l1 x5_1 = some r) ∧ Aside0 (kq ≤ k) ∧ Aside0 (Below w.heap.size w w'))
 case atStart => exact ⟨(0), (qS16), H', ⟨zo _⟩, ⟨(qS0)⟩⟩
 case round =>
  clear H'; (try clear c1); (try clear p2); obtain ⟨x5_1, rfl, HA, HK1, HB⟩ := hrel
  cases gk with
  | zero => exact absurd HA.1 (by simp [spec_l15Good.l0])
  | succ k1 =>
   have H := HA.1; clear HA; simp only [spec_l15Good.l0] at H
   by_cases c3 : x5_1 < (l1.length : Int)
   ·rw [yb c3] at H; have c3b0 : decide (x5_1 < (l1.length : Int)) = true := zc c3; clear c3
    by_cases c4 : 0 ≤ x5_1
    ·rw [yb c4] at H; have c4b0 : decide (0 ≤ x5_1) = true := zc c4; clear c4; replace H := bindA H; obtain ⟨t463, A5, H⟩ := H; (try dsimp only at H)
     by_cases c6 : t463 = true
     ·subst c6; rw [yb rfl] at H; have H' := za H; clear H; have p462 : 0 ≤ (x5_1 : Int) := zb (qS8); have q462 : x5_1 < (l1.length : Int) := zb (qS8); obtain ⟨ad462, e462, hx462_0⟩ := zJ HR1.1 x5_1 p462 q462; cases e462; replace hx462_0 := (HB.1.cell (zd w _ hx462_0)).trans hx462_0; replace p462 := zw p462; replace q462 := zw q462
      go_wp2_with (first | ((with_reducible refine zp (f := 40) rfl ?_); refine zV (some 16) rfl rfl Try.func40 (qS27) rfl #[.int .i64 (rd l1 x5_1)] rfl (qS2) ?_; (with_reducible refine (spec_l12Far.calls (rd l1 x5_1) true _ A5.1).mono ?_); rintro e w' ⟨rfl, ⟨nd, rfl⟩⟩; refine ⟨_, rfl, ?_⟩))
      go_roundg k1
      case measure => have := HK1.1; omega
      case rel => exact ⟨(wrap64 (x5_1 + 1)), (qS16), H', ⟨by have := HK1.1; omega⟩, ⟨(qS0)⟩⟩
     ·replace c6 := zn c6; subst c6; rw [yc (show ¬ (false = true) by decide)] at H; obtain rfl := zm H; have p462 : 0 ≤ (x5_1 : Int) := zb (qS8); have q462 : x5_1 < (l1.length : Int) := zb (qS8); obtain ⟨ad462, e462, hx462_0⟩ := zJ HR1.1 x5_1 p462 q462; cases e462; replace hx462_0 := (HB.1.cell (zd w _ hx462_0)).trans hx462_0; replace p462 := zw p462; replace q462 := zw q462
      go_wp2_with (first | ((with_reducible refine zp (f := 40) rfl ?_); refine zV (some 16) rfl rfl Try.func40 (qS27) rfl #[.int .i64 (rd l1 x5_1)] rfl (qS2) ?_; (with_reducible refine (spec_l12Far.calls (rd l1 x5_1) false _ A5.1).mono ?_); rintro e w' ⟨rfl, ⟨nd, rfl⟩⟩; refine ⟨_, rfl, ?_⟩))
      go_ret
      exact ⟨(qS11), (qS0)⟩
    ·rw [yc c4] at H
     exact absurd H (by simp)
   ·rw [yc c3] at H; have c3b0 : decide (x5_1 < (l1.length : Int)) = false := zv c3; clear c3; replace H := bindA H; obtain ⟨t464, A7, H⟩ := H; (try dsimp only at H)
    by_cases c8 : t464 = true
    ·subst c8; rw [yb rfl] at H; obtain rfl := zm H
     go_wp2_with (first | ((with_reducible refine zp (f := 75) rfl ?_); refine zV (some 19) rfl rfl Try.func75 (qS27) rfl #[.slice A0 l0.length c0] rfl (qS2) ?_; (with_reducible refine (spec_l4Legs.calls k1 _ _ l0 true _ ?s1 ?s2 A7.1).mono ?_); (case s1 => exact (qS13 HR0.1)); (case s2 => exact HC0.1); rintro e w9 ⟨rfl, hb⟩; refine ⟨_, rfl, ?_⟩; replace HB := za qS64; clear hb))
     go_ret
     exact ⟨(qS11), (qS0)⟩
    ·replace c8 := zn c8; subst c8; rw [yc (show ¬ (false = true) by decide)] at H; obtain rfl := zm H
     go_wp2_with (first | ((with_reducible refine zp (f := 75) rfl ?_); refine zV (some 19) rfl rfl Try.func75 (qS27) rfl #[.slice A0 l0.length c0] rfl (qS2) ?_; (with_reducible refine (spec_l4Legs.calls k1 _ _ l0 false _ ?s1 ?s2 A7.1).mono ?_); (case s1 => exact (qS13 HR0.1)); (case s2 => exact HC0.1); rintro e w10 ⟨rfl, hb⟩; refine ⟨_, rfl, ?_⟩; replace HB := za qS64; clear hb))
     go_ret
     exact ⟨(qS11), (qS0)⟩

def spec_l15Asked.f (k : Nat) (l0 : List (S58)) (l1 : List Int) (a2 : Int) (a3 : Int) : Option (Bool) := (spec_l15Good.f k l0 l1).bind fun t465 => (if t465 = true then ((spec_l4Station.f a2).bind fun t466 => (if t466 = true then ((spec_l4Station.f a3).bind fun t467 => (some t467)) else (some false))) else (some false))
theorem spec_l15Asked.calls (k : Nat) (A0 : Option Addr) (c0 : Nat) (l0 : List (S58)) (A1 : Option Addr) (c1 : Nat) (l1 : List Int) (a2 : Int) (a3 : Int) (r : Bool) (w : World) (hr0 : Kd.C k58 w A0 l0.length l0) (hc0 : l0.length ≤ c0) (hr1 : Kd.C (Kd.int .i64) w A1 l1.length l1) (hc1 : l1.length ≤ c1) (h : spec_l15Asked.f k l0 l1 a2 a3 = some r) :
  Calls Try.prog 39 #[.slice A0 l0.length c0, .slice A1 l1.length c1, .int .i64 a2, .int .i64 a3] w fun e w' => e = .returned (.bool r) ∧ Below w.heap.size w w' := by
 have HR0 := za hr0; have HC0 := za hc0; clear hr0 hc0; have HR1 := za hr1; have HC1 := za hc1; clear hr1 hc1; have HB := za (zs w.heap.size w); have H : ((spec_l15Good.f k l0 l1).bind fun t465 => (if t465 = true then ((spec_l4Station.f a2).bind fun t466 => (if t466 = true then ((spec_l4Station.f a3).bind fun t467 => (some t467)) else (some false))) else (some false))) = some r := h; clear h; replace H := bindA H; obtain ⟨t465, A5, H⟩ := H; (try dsimp only at H)
 by_cases c6 : t465 = true
 ·subst c6; rw [yb rfl] at H; replace H := bindA H; obtain ⟨t466, A7, H⟩ := H; (try dsimp only at H)
  by_cases c8 : t466 = true
  ·subst c8; rw [yb rfl] at H; replace H := zC H; obtain ⟨t467, A90, H⟩ := H; replace H : (some t467) = some r := H; have A9 := za A90; clear A90; obtain rfl := zm H
   go_enter Try.func39, Try.ntmps39
   go_wp2_with (first | ((with_reducible refine zp (f := 45) rfl ?_); refine zV (some 11) rfl rfl Try.func45 (qS27) rfl #[.slice A0 l0.length c0, .slice A1 l1.length c1] rfl (qS2) ?_; (with_reducible refine (spec_l15Good.calls k _ _ l0 _ _ l1 true _ ?s1 ?s2 ?s3 ?s4 A5.1).mono ?_); (case s1 => exact (qS21 HR0.1)); (case s2 => exact HC0.1); (case s3 => exact (qS21 HR1.1)); (case s4 => exact HC1.1); rintro e w10 ⟨rfl, hb⟩; refine ⟨_, rfl, ?_⟩; replace HB := za qS64; clear hb) | (go_at_call 68; (with_reducible refine (spec_l4Station.calls a2 true _ A7.1).mono ?_); rintro e w' ⟨rfl, ⟨nd, rfl⟩⟩) | (go_at_call 68; (with_reducible refine (spec_l4Station.calls a3 t467 _ A9.1).mono ?_); rintro e w' ⟨rfl, ⟨nd, rfl⟩⟩))
   go_ret
   exact ⟨(qS11), (qS0)⟩
  ·replace c8 := zn c8; subst c8; rw [yc (show ¬ (false = true) by decide)] at H; obtain rfl := zm H
   go_enter Try.func39, Try.ntmps39
   go_wp2_with (first | ((with_reducible refine zp (f := 45) rfl ?_); refine zV (some 11) rfl rfl Try.func45 (qS27) rfl #[.slice A0 l0.length c0, .slice A1 l1.length c1] rfl (qS2) ?_; (with_reducible refine (spec_l15Good.calls k _ _ l0 _ _ l1 true _ ?s1 ?s2 ?s3 ?s4 A5.1).mono ?_); (case s1 => exact (qS21 HR0.1)); (case s2 => exact HC0.1); (case s3 => exact (qS21 HR1.1)); (case s4 => exact HC1.1); rintro e w11 ⟨rfl, hb⟩; refine ⟨_, rfl, ?_⟩; replace HB := za qS64; clear hb) | (go_at_call 68; (with_reducible refine (spec_l4Station.calls a2 false _ A7.1).mono ?_); rintro e w' ⟨rfl, ⟨nd, rfl⟩⟩))
   go_ret
   exact ⟨(qS11), (qS0)⟩
 ·replace c6 := zn c6; subst c6; rw [yc (show ¬ (false = true) by decide)] at H; obtain rfl := zm H
  go_enter Try.func39, Try.ntmps39
  go_wp2_with (first | ((with_reducible refine zp (f := 45) rfl ?_); refine zV (some 11) rfl rfl Try.func45 (qS27) rfl #[.slice A0 l0.length c0, .slice A1 l1.length c1] rfl (qS2) ?_; (with_reducible refine (spec_l15Good.calls k _ _ l0 _ _ l1 false _ ?s1 ?s2 ?s3 ?s4 A5.1).mono ?_); (case s1 => exact (qS21 HR0.1)); (case s2 => exact HC0.1); (case s3 => exact (qS21 HR1.1)); (case s4 => exact HC1.1); rintro e w12 ⟨rfl, hb⟩; refine ⟨_, rfl, ?_⟩; replace HB := za qS64; clear hb))
  go_ret
  exact ⟨(qS11), (qS0)⟩

def spec_l1Has.l0 : Nat → List Int → Int → Int → Option (Bool)
 | 0, _, _, _ => none
 | k + 1, x0, x1, x5 => if x5 < (x0.length : Int) then (if 0 ≤ x5 then (if (rd x0 x5) = x1 then (some true) else (spec_l1Has.l0 k x0 x1 (wrap64 (x5 + 1)))) else (none)) else (some false)
def spec_l1Has.f (k : Nat) (l0 : List Int) (a1 : Int) : Option (Bool) := spec_l1Has.l0 k l0 a1 0
theorem spec_l1Has.calls (k : Nat) (A0 : Option Addr) (c0 : Nat) (l0 : List Int) (a1 : Int) (r : Bool) (w : World) (hr0 : Kd.C (Kd.int .i64) w A0 l0.length l0) (hc0 : l0.length ≤ c0) (h : spec_l1Has.f k l0 a1 = some r) :
  Calls Try.prog 71 #[.slice A0 l0.length c0, .int .i64 a1] w fun e w' => e = .returned (.bool r) ∧ Drawn0 w w' := by
 have HR0 := za hr0; have HC0 := za hc0; clear hr0 hc0; have H : (spec_l1Has.l0 k l0 a1 0) = some r := h; clear h; have H' := za H; clear H
 go_enter Try.func71, Try.ntmps71
 go_wp2
 go_loopg [5] k (fun kq v5 w' => ∃ (x5_1 : Int), v5 = .int .i64 x5_1 ∧ Aside0 (spec_l1Has.l0 kq l0 a1 x5_1 = some r) ∧ Aside0 (kq ≤ k) ∧ Drawn0 w w')
 case atStart => exact ⟨(0), (qS16), H', ⟨zo _⟩, (qS30)⟩
 case round =>
  clear H'; (try clear p2); obtain ⟨x5_1, rfl, HA, HK1, ⟨m1, rfl⟩⟩ := hrel
  cases gk with
  | zero => exact absurd HA.1 (by simp [spec_l1Has.l0])
  | succ k1 =>
   have H := HA.1; clear HA; simp only [spec_l1Has.l0] at H
   by_cases c3 : x5_1 < (l0.length : Int)
   ·rw [yb c3] at H; have c3b0 : decide (x5_1 < (l0.length : Int)) = true := zc c3; clear c3
    by_cases c4 : 0 ≤ x5_1
    ·rw [yb c4] at H; have c4b0 : decide (0 ≤ x5_1) = true := zc c4; clear c4
     by_cases c5 : (rd l0 x5_1) = a1
     ·rw [yb c5] at H; have c5b0 : ((rd l0 x5_1) == a1) = true := zT c5; have c5b1 : ((rd l0 x5_1) != a1) = false := zy c5; clear c5; obtain rfl := zm H; have p468 : 0 ≤ (x5_1 : Int) := zb (qS8); have q468 : x5_1 < (l0.length : Int) := zb (qS8); obtain ⟨ad468, e468, hx468_0⟩ := zJ HR0.1 x5_1 p468 q468; cases e468; replace p468 := zw p468; replace q468 := zw q468
      go_wp2
      go_ret
      exact ⟨(qS16), (qS30)⟩
     ·rw [yc c5] at H; have c5b0 : ((rd l0 x5_1) == a1) = false := zx c5; have c5b1 : ((rd l0 x5_1) != a1) = true := zU c5; have H' := za H; clear H; have p468 : 0 ≤ (x5_1 : Int) := zb (qS8); have q468 : x5_1 < (l0.length : Int) := zb (qS8); obtain ⟨ad468, e468, hx468_0⟩ := zJ HR0.1 x5_1 p468 q468; cases e468; replace p468 := zw p468; replace q468 := zw q468
      go_wp2
      go_roundg k1
      case measure => have := HK1.1; omega
      case rel => exact ⟨(wrap64 (x5_1 + 1)), (qS16), H', ⟨by have := HK1.1; omega⟩, (qS30)⟩
    ·rw [yc c4] at H
     exact absurd H (by simp)
   ·rw [yc c3] at H; have c3b0 : decide (x5_1 < (l0.length : Int)) = false := zv c3; clear c3; obtain rfl := zm H
    go_wp2
    go_ret
    exact ⟨(qS16), (qS30)⟩

end Go.Proofs.Ytoljdjgndogegaa.MS
