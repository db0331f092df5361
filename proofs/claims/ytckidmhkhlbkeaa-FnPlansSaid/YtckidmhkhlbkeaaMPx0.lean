-- tight2 (a walk)
import Derived.Test.YtckidmhkhlbkeaaMPq
namespace Go.Proofs.Ytckidmhkhlbkeaa.MP
open Go.RowKit Go.Proofs.YtckidmhkhlbkeaaW.PrintWords Go.Proofs.YtckidmhkhlbkeaaW.PrintLast
attribute [local go_sem] max2_int min2_int max_two min_two
set_option linter.unusedVariables false
set_option linter.unusedSimpArgs false



def errW : Option Int → Value
 | none => .nilIface
 | some c => .iface 0 (.int .i64 c)
theorem errW_none : errW none = .nilIface := rfl
theorem errW_some (c : Int) : errW (some c) = .iface 0 (.int .i64 c) := rfl

theorem info3 : (Try.prog.info? 3).map (fun i => (i.zero, i.size, i.bytes)) = some (some (.int .i64 0), 1, 8) := by kernel_rfl
theorem info9 : (Try.prog.info? 9).map (fun i => (i.zero, i.size, i.bytes)) = some (some (.string ⟨#[]⟩), 1, 16) := by kernel_rfl
theorem info44 : (Try.prog.info? 44).map (fun i => (i.zero, i.size, i.bytes)) = some (some (.agg #[(.string ⟨#[]⟩), (.int .i64 0), (.int .i64 0)]), 3, 32) := by kernel_rfl
-- the values' own types
structure S44 where
 f0 : ByteArray
 f1 : Int
 f2 : Int
def z44 : S44 := ⟨(⟨#[]⟩ : ByteArray), (0 : Int), (0 : Int)⟩
def k44 : Kd S44 := Kd.iso (Kd.pair Kd.string (Kd.pair (Kd.int .i64) (Kd.int .i64))) (fun x : S44 => (x.f0, x.f1, x.f2))
theorem k44_open {w : World} {x : S44} {cs : List Value} (h : k44.K w x cs) : cs = [.string x.f0, .int .i64 x.f1, .int .i64 x.f2] := by
 obtain ⟨_, _, rfl, rfl, ⟨_, _, rfl, rfl, rfl⟩⟩ := h
 exact rfl
theorem k44_openM {w : World} {base : Nat} {ok : Nat → Prop} {x : S44} {cs : List Value} (h : k44.M w base ok x cs) : cs = [.string x.f0, .int .i64 x.f1, .int .i64 x.f2] := by
 obtain ⟨_, _, rfl, rfl, ⟨_, _, rfl, rfl, rfl⟩⟩ := h
 exact rfl
theorem k44_mkM (w : World) (base : Nat) (ok : Nat → Prop) (x : S44)  : k44.M w base ok x [.string x.f0, .int .i64 x.f1, .int .i64 x.f2] := ⟨[.string x.f0], [.int .i64 x.f1, .int .i64 x.f2], rfl, rfl, ⟨[.int .i64 x.f1], [.int .i64 x.f2], rfl, rfl, rfl⟩⟩
def rd_T44 (xs : List S44) (i : Int) : S44 := xs.getD i.toNat z44
theorem at_T44 {w : World} {A : Option Addr} {n : Nat} {xs : List S44} (h : Kd.C k44 w A n xs) (i : Int) (h0 : 0 ≤ i) (h1 : i < n) : ∃ ad , A = some ad ∧ w.cell? (ad.add (i.toNat * 3)) = some (.string (rd_T44 xs i).f0) ∧ w.cell? ⟨(ad.add (i.toNat * 3)).block, (ad.add (i.toNat * 3)).off + 1, none⟩ = some (.int .i64 (rd_T44 xs i).f1) ∧ w.cell? ⟨(ad.add (i.toNat * 3)).block, (ad.add (i.toNat * 3)).off + 2, none⟩ = some (.int .i64 (rd_T44 xs i).f2) := by
 obtain ⟨ad, c, e, _, hK, hc0⟩ := Kd.C_get h z44 i h0 h1; have hc : ∀ j u, c[j]? = some u → w.cell? (ad.add (i.toNat * 3 + j)) = some u := hc0; obtain rfl := k44_open hK
 exact ⟨ad, e, hc 0 _ rfl, by rw [← add_field _ _ 1 (by omega)]; exact hc 1 _ rfl, by rw [← add_field _ _ 2 (by omega)]; exact hc 2 _ rfl⟩

def rd_L3 (xs : List (List S44)) (i : Int) : (List S44) := xs.getD i.toNat ([] : List S44)
structure S79 where
 f0 : (List S44)
 f1 : Int
 f2 : Int
 f3 : Int
 f4 : Int
 f5 : Int
def z79 : S79 := ⟨([] : List S44), (0 : Int), (0 : Int), (0 : Int), (0 : Int), (0 : Int)⟩
def k79 : Kd S79 := Kd.iso (Kd.pair (Kd.slice 44 k44) (Kd.pair (Kd.int .i64) (Kd.pair (Kd.int .i64) (Kd.pair (Kd.int .i64) (Kd.pair (Kd.int .i64) (Kd.int .i64)))))) (fun x : S79 => (x.f0, x.f1, x.f2, x.f3, x.f4, x.f5))
def rd_T79 (xs : List S79) (i : Int) : S79 := xs.getD i.toNat z79
def rd_L6 (xs : List (List ByteArray)) (i : Int) : (List ByteArray) := xs.getD i.toNat ([] : List ByteArray)
set_option maxHeartbeats 8000000
set_option maxRecDepth 100000

def spec_l13Square.f (a0 : Int) (a1 : Int) : Option (Int) := if a1 = 0 then (none) else (some (wrap64 ((wrap64 (Int.tdiv (wrap64 (a0 + (wrap64 (1000 * a1)))) a1)) - 1000)))
theorem spec_l13Square.calls (a0 : Int) (a1 : Int) (r : Int) (w : World) (h : spec_l13Square.f a0 a1 = some r) :
  Calls Try.prog 51 #[.int .i64 a0, .int .i64 a1] w fun e w' => e = .returned (.int .i64 r) ∧ Drawn0 w w' := by
 have H : (if a1 = 0 then (none) else (some (wrap64 ((wrap64 (Int.tdiv (wrap64 (a0 + (wrap64 (1000 * a1)))) a1)) - 1000)))) = some r := h; clear h
 by_cases c3 : a1 = 0
 ·rw [zU c3] at H
  exact zJ H (by simp)
 ·rw [zV c3] at H; have c3b0 : (a1 == 0) = false := zu c3; have c3b1 : (a1 != 0) = true := zN c3; obtain rfl := zk H
  go_enter Try.func51, Try.ntmps51
  go_wp2
  go_ret
  exact ⟨(qP17), (qP31)⟩

def spec_l1Least.f (a0 : Int) (a1 : Int) : Option (Int) := if a0 < a1 then (some a0) else (some a1)
theorem spec_l1Least.calls (a0 : Int) (a1 : Int) (r : Int) (w : World) (h : spec_l1Least.f a0 a1 = some r) :
  Calls Try.prog 76 #[.int .i64 a0, .int .i64 a1] w fun e w' => e = .returned (.int .i64 r) ∧ Drawn0 w w' := by
 have H : (if a0 < a1 then (some a0) else (some a1)) = some r := h; clear h
 by_cases c3 : a0 < a1
 ·rw [zU c3] at H; have c3b0 : decide (a0 < a1) = true := zc c3; clear c3; obtain rfl := zk H
  go_enter Try.func76, Try.ntmps76
  go_wp2
  go_ret
  exact ⟨(qP17), (qP31)⟩
 ·rw [zV c3] at H; have c3b0 : decide (a0 < a1) = false := zs c3; clear c3; obtain rfl := zk H
  go_enter Try.func76, Try.ntmps76
  go_wp2
  go_ret
  exact ⟨(qP17), (qP31)⟩

def spec_l1Most.f (a0 : Int) (a1 : Int) : Option (Int) := if a0 > a1 then (some a0) else (some a1)
theorem spec_l1Most.calls (a0 : Int) (a1 : Int) (r : Int) (w : World) (h : spec_l1Most.f a0 a1 = some r) :
  Calls Try.prog 77 #[.int .i64 a0, .int .i64 a1] w fun e w' => e = .returned (.int .i64 r) ∧ Drawn0 w w' := by
 have H : (if a0 > a1 then (some a0) else (some a1)) = some r := h; clear h
 by_cases c3 : a0 > a1
 ·rw [zU c3] at H; have c3b0 : decide (a1 < a0) = true := zc c3; clear c3; obtain rfl := zk H
  go_enter Try.func77, Try.ntmps77
  go_wp2
  go_ret
  exact ⟨(qP17), (qP31)⟩
 ·rw [zV c3] at H; have c3b0 : decide (a1 < a0) = false := zs c3; clear c3; obtain rfl := zk H
  go_enter Try.func77, Try.ntmps77
  go_wp2
  go_ret
  exact ⟨(qP17), (qP31)⟩

def spec_l13Bounds.l0 : Nat → List (S44) → Int → Int → Int → Int → Int → Int → Option (Int × Int × Int × Int)
 | 0, _, _, _, _, _, _, _ => none
 | k + 1, x0, x1, x8, x9, x10, x11, x12 => if x12 < (x0.length : Int) then (if 0 ≤ x12 then ((spec_l13Square.f ((rd_T44 x0 x12).f1) x1).bind fun t106 => ((spec_l13Square.f ((rd_T44 x0 x12).f2) x1).bind fun t108 => ((spec_l1Least.f x8 t106).bind fun t109 => ((spec_l1Most.f x10 t106).bind fun t110 => ((spec_l1Least.f x9 t108).bind fun t111 => ((spec_l1Most.f x11 t108).bind fun t112 => (spec_l13Bounds.l0 k x0 x1 t109 t111 t110 t112 (wrap64 (x12 + 1))))))))) else (none)) else (some (x8, x10, x9, x11))
def spec_l13Bounds.f (k : Nat) (l0 : List (S44)) (a1 : Int) : Option (Int × Int × Int × Int) := if 0 < (l0.length : Int) then ((spec_l13Square.f ((rd_T44 l0 0).f1) a1).bind fun t102 => ((spec_l13Square.f ((rd_T44 l0 0).f2) a1).bind fun t104 => (spec_l13Bounds.l0 k l0 a1 t102 t104 t102 t104 1))) else (none)
theorem spec_l13Bounds.calls (k : Nat) (A0 : Option Addr) (c0 : Nat) (l0 : List (S44)) (a1 : Int) (r1 : Int) (r2 : Int) (r3 : Int) (r4 : Int) (w : World) (hr0 : Kd.C k44 w A0 l0.length l0) (hc0 : l0.length ≤ c0) (h : spec_l13Bounds.f k l0 a1 = some (r1, r2, r3, r4)) :
  Calls Try.prog 45 #[.slice A0 l0.length c0, .int .i64 a1] w fun e w' => e = .returned (.tuple #[.int .i64 r1, .int .i64 r2, .int .i64 r3, .int .i64 r4]) ∧ Drawn0 w w' := by
 have HR0 := za hr0; have HC0 := za hc0; clear hr0 hc0; have H : (if 0 < (l0.length : Int) then ((spec_l13Square.f ((rd_T44 l0 0).f1) a1).bind fun t102 => ((spec_l13Square.f ((rd_T44 l0 0).f2) a1).bind fun t104 => (spec_l13Bounds.l0 k l0 a1 t102 t104 t102 t104 1))) else (none)) = some (r1, r2, r3, r4) := h; clear h
 by_cases c3 : 0 < (l0.length : Int)
 ·rw [zU c3] at H; have c3b0 : decide (0 < (l0.length : Int)) = true := zc c3; have c3b1 : decide (0 < l0.length) = true := zc (by omega); clear c3; replace H := bindA H; obtain ⟨t102, A4, H⟩ := H; (try dsimp only at H); replace H := bindA H; obtain ⟨t104, A5, H⟩ := H; (try dsimp only at H); have H' := za H; clear H; have p101 : 0 ≤ (0 : Int) := (by omega); have q101 : 0 < (l0.length : Int) := zb (qP9); obtain ⟨ad101, e101, hx101_0, hx101_1, hx101_2⟩ := at_T44 HR0.1 0 p101 q101; cases e101; have qi101 : (0 < l0.length) = True := zt (by omega)
  (try rw [show ((0 : Int)).toNat = 0 from rfl] at hx101_0)
  (try rw [show 0 * 3 = 0 from rfl] at hx101_0)
  (try rw [Addr.add_zero'] at hx101_0)
  (try rw [show ((0 : Int)).toNat = 0 from rfl] at hx101_1)
  (try rw [show 0 * 3 = 0 from rfl] at hx101_1)
  (try rw [Addr.add_zero'] at hx101_1)
  (try rw [show ((0 : Int)).toNat = 0 from rfl] at hx101_2)
  (try rw [show 0 * 3 = 0 from rfl] at hx101_2)
  (try rw [Addr.add_zero'] at hx101_2); replace p101 := zt p101; replace q101 := zt q101
  go_enter Try.func45, Try.ntmps45
  go_wp2_with (first | (go_at_call 51; (with_reducible refine (spec_l13Square.calls ((rd_T44 l0 0).f1) a1 t102 _ A4.1).mono ?_); rintro e w' ⟨rfl, ⟨nd, rfl⟩⟩; (try first | exact ⟨rfl, _, zL _ _ _⟩ | exact ⟨rfl, _, Eq.trans (zL _ _ _) (congrArg (World.drewN _) (Nat.add_assoc _ _ _))⟩); have p103 : 0 ≤ (0 : Int) := (by omega); have q103 : 0 < (l0.length : Int) := zb (qP9); obtain ⟨ad103, e103, hx103_0, hx103_1, hx103_2⟩ := at_T44 HR0.1 0 p103 q103; obtain rfl : ad101 = ad103 := (by injection e103); have qi103 : (0 < l0.length) = True := zt (by omega); (try rw [show ((0 : Int)).toNat = 0 from rfl] at hx103_0); (try rw [show 0 * 3 = 0 from rfl] at hx103_0); (try rw [Addr.add_zero'] at hx103_0); (try rw [show ((0 : Int)).toNat = 0 from rfl] at hx103_1); (try rw [show 0 * 3 = 0 from rfl] at hx103_1); (try rw [Addr.add_zero'] at hx103_1); (try rw [show ((0 : Int)).toNat = 0 from rfl] at hx103_2); (try rw [show 0 * 3 = 0 from rfl] at hx103_2); (try rw [Addr.add_zero'] at hx103_2); replace p103 := zt p103; replace q103 := zt q103) | (go_at_call 51; (with_reducible refine (spec_l13Square.calls ((rd_T44 l0 0).f2) a1 t104 _ A5.1).mono ?_); rintro e w' ⟨rfl, ⟨nd, rfl⟩⟩; (try first | exact ⟨rfl, _, zL _ _ _⟩ | exact ⟨rfl, _, Eq.trans (zL _ _ _) (congrArg (World.drewN _) (Nat.add_assoc _ _ _))⟩)))
  repeat (go_quiet (first | (go_at_call 51; (with_reducible refine (spec_l13Square.calls ((rd_T44 l0 0).f1) a1 t102 _ A4.1).mono ?_); rintro e w' ⟨rfl, ⟨nd, rfl⟩⟩; (try first | exact ⟨rfl, _, zL _ _ _⟩ | exact ⟨rfl, _, Eq.trans (zL _ _ _) (congrArg (World.drewN _) (Nat.add_assoc _ _ _))⟩); have p103 : 0 ≤ (0 : Int) := (by omega); have q103 : 0 < (l0.length : Int) := zb (qP9); obtain ⟨ad103, e103, hx103_0, hx103_1, hx103_2⟩ := at_T44 HR0.1 0 p103 q103; obtain rfl : ad101 = ad103 := (by injection e103); have qi103 : (0 < l0.length) = True := zt (by omega); (try rw [show ((0 : Int)).toNat = 0 from rfl] at hx103_0); (try rw [show 0 * 3 = 0 from rfl] at hx103_0); (try rw [Addr.add_zero'] at hx103_0); (try rw [show ((0 : Int)).toNat = 0 from rfl] at hx103_1); (try rw [show 0 * 3 = 0 from rfl] at hx103_1); (try rw [Addr.add_zero'] at hx103_1); (try rw [show ((0 : Int)).toNat = 0 from rfl] at hx103_2); (try rw [show 0 * 3 = 0 from rfl] at hx103_2); (try rw [Addr.add_zero'] at hx103_2); replace p103 := zt p103; replace q103 := zt q103) | (go_at_call 51; (with_reducible refine (spec_l13Square.calls ((rd_T44 l0 0).f2) a1 t104 _ A5.1).mono ?_); rintro e w' ⟨rfl, ⟨nd, rfl⟩⟩; (try first | exact ⟨rfl, _, zL _ _ _⟩ | exact ⟨rfl, _, Eq.trans (zL _ _ _) (congrArg (World.drewN _) (Nat.add_assoc _ _ _))⟩))); try go_wp2_with (first | (go_at_call 51; (with_reducible refine (spec_l13Square.calls ((rd_T44 l0 0).f1) a1 t102 _ A4.1).mono ?_); rintro e w' ⟨rfl, ⟨nd, rfl⟩⟩; (try first | exact ⟨rfl, _, zL _ _ _⟩ | exact ⟨rfl, _, Eq.trans (zL _ _ _) (congrArg (World.drewN _) (Nat.add_assoc _ _ _))⟩); have p103 : 0 ≤ (0 : Int) := (by omega); have q103 : 0 < (l0.length : Int) := zb (qP9); obtain ⟨ad103, e103, hx103_0, hx103_1, hx103_2⟩ := at_T44 HR0.1 0 p103 q103; obtain rfl : ad101 = ad103 := (by injection e103); have qi103 : (0 < l0.length) = True := zt (by omega); (try rw [show ((0 : Int)).toNat = 0 from rfl] at hx103_0); (try rw [show 0 * 3 = 0 from rfl] at hx103_0); (try rw [Addr.add_zero'] at hx103_0); (try rw [show ((0 : Int)).toNat = 0 from rfl] at hx103_1); (try rw [show 0 * 3 = 0 from rfl] at hx103_1); (try rw [Addr.add_zero'] at hx103_1); (try rw [show ((0 : Int)).toNat = 0 from rfl] at hx103_2); (try rw [show 0 * 3 = 0 from rfl] at hx103_2); (try rw [Addr.add_zero'] at hx103_2); replace p103 := zt p103; replace q103 := zt q103) | (go_at_call 51; (with_reducible refine (spec_l13Square.calls ((rd_T44 l0 0).f2) a1 t104 _ A5.1).mono ?_); rintro e w' ⟨rfl, ⟨nd, rfl⟩⟩; (try first | exact ⟨rfl, _, zL _ _ _⟩ | exact ⟨rfl, _, Eq.trans (zL _ _ _) (congrArg (World.drewN _) (Nat.add_assoc _ _ _))⟩))))
  go_loopg [8, 9, 10, 11, 12] k (fun kq v8 v9 v10 v11 v12 w' => ∃ (x8_1 : Int) (x9_1 : Int) (x10_1 : Int) (x11_1 : Int) (x12_1 : Int), v8 = .int .i64 x8_1 ∧ v9 = .int .i64 x9_1 ∧ v10 = .int .i64 x10_1 ∧ v11 = .int .i64 x11_1 ∧ v12 = .int .i64 x12_1 ∧ Aside0 (spec_l13Bounds.l0 kq l0 a1 x8_1 x9_1 x10_1 x11_1 x12_1 = some (r1, r2, r3, r4)) ∧ Aside0 (kq ≤ k) ∧ Drawn0 w w')
  case atStart => exact ⟨(t102), (t104), (t102), (t104), (1), (qP17), (qP17), (qP17), (qP17), (qP17), H', ⟨zm _⟩, (qP31)⟩
  case round =>
   clear H'; (try clear qi1); (try clear c3b0); (try clear c3b1); (try clear hx101_0); (try clear hx101_1); (try clear hx101_2); (try clear hx103_0); (try clear hx103_1); (try clear hx103_2); (try clear p101); (try clear p103); (try clear q101); (try clear q103); obtain ⟨x8_1, x9_1, x10_1, x11_1, x12_1, rfl, rfl, rfl, rfl, rfl, HA, HK1, ⟨m1, rfl⟩⟩ := hrel
   cases gk with
   | zero => exact zJ HA.1 (by simp [spec_l13Bounds.l0])
   | succ k1 =>
    have H := HA.1; clear HA; simp only [spec_l13Bounds.l0] at H
    by_cases c6 : x12_1 < (l0.length : Int)
    ·rw [zU c6] at H; have c6b0 : decide (x12_1 < (l0.length : Int)) = true := zc c6; clear c6
     by_cases c7 : 0 ≤ x12_1
     ·rw [zU c7] at H; have c7b0 : decide (0 ≤ x12_1) = true := zc c7; clear c7; replace H := bindA H; obtain ⟨t106, A8, H⟩ := H; (try dsimp only at H); replace H := bindA H; obtain ⟨t108, A9, H⟩ := H; (try dsimp only at H); replace H := bindA H; obtain ⟨t109, A10, H⟩ := H; (try dsimp only at H); replace H := bindA H; obtain ⟨t110, A11, H⟩ := H; (try dsimp only at H); replace H := bindA H; obtain ⟨t111, A12, H⟩ := H; (try dsimp only at H); replace H := bindA H; obtain ⟨t112, A13, H⟩ := H; (try dsimp only at H); have H' := za H; clear H; have p105 : 0 ≤ (x12_1 : Int) := zb (qP9); have q105 : x12_1 < (l0.length : Int) := zb (qP9); obtain ⟨ad105, e105, hx105_0, hx105_1, hx105_2⟩ := at_T44 HR0.1 x12_1 p105 q105; obtain rfl : ad101 = ad105 := (by injection e105); replace p105 := zt p105; replace q105 := zt q105
      go_wp2_with (first | (go_at_call 51; (with_reducible refine (spec_l13Square.calls ((rd_T44 l0 x12_1).f1) a1 t106 _ A8.1).mono ?_); rintro e w' ⟨rfl, ⟨nd, rfl⟩⟩; (try first | exact ⟨rfl, _, zL _ _ _⟩ | exact ⟨rfl, _, Eq.trans (zL _ _ _) (congrArg (World.drewN _) (Nat.add_assoc _ _ _))⟩); have p107 : 0 ≤ (x12_1 : Int) := zb (qP9); have q107 : x12_1 < (l0.length : Int) := zb (qP9); obtain ⟨ad107, e107, hx107_0, hx107_1, hx107_2⟩ := at_T44 HR0.1 x12_1 p107 q107; obtain rfl : ad101 = ad107 := (by injection e107); replace p107 := zt p107; replace q107 := zt q107) | (go_at_call 51; (with_reducible refine (spec_l13Square.calls ((rd_T44 l0 x12_1).f2) a1 t108 _ A9.1).mono ?_); rintro e w' ⟨rfl, ⟨nd, rfl⟩⟩; (try first | exact ⟨rfl, _, zL _ _ _⟩ | exact ⟨rfl, _, Eq.trans (zL _ _ _) (congrArg (World.drewN _) (Nat.add_assoc _ _ _))⟩)) | (go_at_call 76; (with_reducible refine (spec_l1Least.calls x8_1 t106 t109 _ A10.1).mono ?_); rintro e w' ⟨rfl, ⟨nd, rfl⟩⟩; (try first | exact ⟨rfl, _, zL _ _ _⟩ | exact ⟨rfl, _, Eq.trans (zL _ _ _) (congrArg (World.drewN _) (Nat.add_assoc _ _ _))⟩)) | (go_at_call 77; (with_reducible refine (spec_l1Most.calls x10_1 t106 t110 _ A11.1).mono ?_); rintro e w' ⟨rfl, ⟨nd, rfl⟩⟩; (try first | exact ⟨rfl, _, zL _ _ _⟩ | exact ⟨rfl, _, Eq.trans (zL _ _ _) (congrArg (World.drewN _) (Nat.add_assoc _ _ _))⟩)) | (go_at_call 76; (with_reducible refine (spec_l1Least.calls x9_1 t108 t111 _ A12.1).mono ?_); rintro e w' ⟨rfl, ⟨nd, rfl⟩⟩; (try first | exact ⟨rfl, _, zL _ _ _⟩ | exact ⟨rfl, _, Eq.trans (zL _ _ _) (congrArg (World.drewN _) (Nat.add_assoc _ _ _))⟩)) | (go_at_call 77; (with_reducible refine (spec_l1Most.calls x11_1 t108 t112 _ A13.1).mono ?_); rintro e w' ⟨rfl, ⟨nd, rfl⟩⟩; (try first | exact ⟨rfl, _, zL _ _ _⟩ | exact ⟨rfl, _, Eq.trans (zL _ _ _) (congrArg (World.drewN _) (Nat.add_assoc _ _ _))⟩)))
      repeat (go_quiet (first | (go_at_call 51; (with_reducible refine (spec_l13Square.calls ((rd_T44 l0 x12_1).f1) a1 t106 _ A8.1).mono ?_); rintro e w' ⟨rfl, ⟨nd, rfl⟩⟩; (try first | exact ⟨rfl, _, zL _ _ _⟩ | exact ⟨rfl, _, Eq.trans (zL _ _ _) (congrArg (World.drewN _) (Nat.add_assoc _ _ _))⟩); have p107 : 0 ≤ (x12_1 : Int) := zb (qP9); have q107 : x12_1 < (l0.length : Int) := zb (qP9); obtain ⟨ad107, e107, hx107_0, hx107_1, hx107_2⟩ := at_T44 HR0.1 x12_1 p107 q107; obtain rfl : ad101 = ad107 := (by injection e107); replace p107 := zt p107; replace q107 := zt q107) | (go_at_call 51; (with_reducible refine (spec_l13Square.calls ((rd_T44 l0 x12_1).f2) a1 t108 _ A9.1).mono ?_); rintro e w' ⟨rfl, ⟨nd, rfl⟩⟩; (try first | exact ⟨rfl, _, zL _ _ _⟩ | exact ⟨rfl, _, Eq.trans (zL _ _ _) (congrArg (World.drewN _) (Nat.add_assoc _ _ _))⟩)) | (go_at_call 76; (with_reducible refine (spec_l1Least.calls x8_1 t106 t109 _ A10.1).mono ?_); rintro e w' ⟨rfl, ⟨nd, rfl⟩⟩; (try first | exact ⟨rfl, _, zL _ _ _⟩ | exact ⟨rfl, _, Eq.trans (zL _ _ _) (congrArg (World.drewN _) (Nat.add_assoc _ _ _))⟩)) | (go_at_call 77; (with_reducible refine (spec_l1Most.calls x10_1 t106 t110 _ A11.1).mono ?_); rintro e w' ⟨rfl, ⟨nd, rfl⟩⟩; (try first | exact ⟨rfl, _, zL _ _ _⟩ | exact ⟨rfl, _, Eq.trans (zL _ _ _) (congrArg (World.drewN _) (Nat.add_assoc _ _ _))⟩)) | (go_at_call 76; (with_reducible refine (spec_l1Least.calls x9_1 t108 t111 _ A12.1).mono ?_); rintro e w' ⟨rfl, ⟨nd, rfl⟩⟩; (try first | exact ⟨rfl, _, zL _ _ _⟩ | exact ⟨rfl, _, Eq.trans (zL _ _ _) (congrArg (World.drewN _) (Nat.add_assoc _ _ _))⟩)) | (go_at_call 77; (with_reducible refine (spec_l1Most.calls x11_1 t108 t112 _ A13.1).mono ?_); rintro e w' ⟨rfl, ⟨nd, rfl⟩⟩; (try first | exact ⟨rfl, _, zL _ _ _⟩ | exact ⟨rfl, _, Eq.trans (zL _ _ _) (congrArg (World.drewN _) (Nat.add_assoc _ _ _))⟩))); try go_wp2_with (first | (go_at_call 51; (with_reducible refine (spec_l13Square.calls ((rd_T44 l0 x12_1).f1) a1 t106 _ A8.1).mono ?_); rintro e w' ⟨rfl, ⟨nd, rfl⟩⟩; (try first | exact ⟨rfl, _, zL _ _ _⟩ | exact ⟨rfl, _, Eq.trans (zL _ _ _) (congrArg (World.drewN _) (Nat.add_assoc _ _ _))⟩); have p107 : 0 ≤ (x12_1 : Int) := zb (qP9); have q107 : x12_1 < (l0.length : Int) := zb (qP9); obtain ⟨ad107, e107, hx107_0, hx107_1, hx107_2⟩ := at_T44 HR0.1 x12_1 p107 q107; obtain rfl : ad101 = ad107 := (by injection e107); replace p107 := zt p107; replace q107 := zt q107) | (go_at_call 51; (with_reducible refine (spec_l13Square.calls ((rd_T44 l0 x12_1).f2) a1 t108 _ A9.1).mono ?_); rintro e w' ⟨rfl, ⟨nd, rfl⟩⟩; (try first | exact ⟨rfl, _, zL _ _ _⟩ | exact ⟨rfl, _, Eq.trans (zL _ _ _) (congrArg (World.drewN _) (Nat.add_assoc _ _ _))⟩)) | (go_at_call 76; (with_reducible refine (spec_l1Least.calls x8_1 t106 t109 _ A10.1).mono ?_); rintro e w' ⟨rfl, ⟨nd, rfl⟩⟩; (try first | exact ⟨rfl, _, zL _ _ _⟩ | exact ⟨rfl, _, Eq.trans (zL _ _ _) (congrArg (World.drewN _) (Nat.add_assoc _ _ _))⟩)) | (go_at_call 77; (with_reducible refine (spec_l1Most.calls x10_1 t106 t110 _ A11.1).mono ?_); rintro e w' ⟨rfl, ⟨nd, rfl⟩⟩; (try first | exact ⟨rfl, _, zL _ _ _⟩ | exact ⟨rfl, _, Eq.trans (zL _ _ _) (congrArg (World.drewN _) (Nat.add_assoc _ _ _))⟩)) | (go_at_call 76; (with_reducible refine (spec_l1Least.calls x9_1 t108 t111 _ A12.1).mono ?_); rintro e w' ⟨rfl, ⟨nd, rfl⟩⟩; (try first | exact ⟨rfl, _, zL _ _ _⟩ | exact ⟨rfl, _, Eq.trans (zL _ _ _) (congrArg (World.drewN _) (Nat.add_assoc _ _ _))⟩)) | (go_at_call 77; (with_reducible refine (spec_l1Most.calls x11_1 t108 t112 _ A13.1).mono ?_); rintro e w' ⟨rfl, ⟨nd, rfl⟩⟩; (try first | exact ⟨rfl, _, zL _ _ _⟩ | exact ⟨rfl, _, Eq.trans (zL _ _ _) (congrArg (World.drewN _) (Nat.add_assoc _ _ _))⟩))))
      go_roundg k1
      case measure => have := HK1.1; omega
      case rel => exact ⟨(t109), (t111), (t110), (t112), (wrap64 (x12_1 + 1)), (qP17), (qP17), (qP17), (qP17), (qP17), H', ⟨by have := HK1.1; omega⟩, (qP31)⟩
     ·rw [zV c7] at H
      exact zJ H (by simp)
    ·rw [zV c6] at H; have c6b0 : decide (x12_1 < (l0.length : Int)) = false := zs c6; clear c6; simp only [zW, zX] at H; obtain ⟨rfl, rfl, rfl, rfl⟩ := H
     go_wp2
     repeat (go_quiet (fail); try go_wp2)
     refine bodyPost_ret (results_list (rs := [.tmp 4, .tmp 5, .tmp 6, .tmp 7]) rfl (by simp) (.tmp (.tmp (.tmp (.tmp .nil))))) rfl ?_
     exact ⟨(qP17), (qP31)⟩
 ·rw [zV c3] at H
  exact zJ H (by simp)

def spec_l1In.f (a0 : Int) (a1 : Int) (a2 : Int) : Option (Bool) := if a0 ≥ a1 then (some (decide (a0 ≤ a2))) else (some false)
theorem spec_l1In.calls (a0 : Int) (a1 : Int) (a2 : Int) (r : Bool) (w : World) (h : spec_l1In.f a0 a1 a2 = some r) :
  Calls Try.prog 64 #[.int .i64 a0, .int .i64 a1, .int .i64 a2] w fun e w' => e = .returned (.bool r) ∧ Drawn0 w w' := by
 have H : (if a0 ≥ a1 then (some (decide (a0 ≤ a2))) else (some false)) = some r := h; clear h
 by_cases c4 : a0 ≥ a1
 ·rw [zU c4] at H; have c4b0 : decide (a1 ≤ a0) = true := zc c4; clear c4; obtain rfl := zk H
  go_enter Try.func64, Try.ntmps64
  go_wp2
  go_ret
  exact ⟨(qP17), (qP31)⟩
 ·rw [zV c4] at H; have c4b0 : decide (a1 ≤ a0) = false := zs c4; clear c4; obtain rfl := zk H
  go_enter Try.func64, Try.ntmps64
  go_wp2
  go_ret
  exact ⟨(qP17), (qP31)⟩

def spec_l13Letter.f (a0 : ByteArray) : Option (Bool) := if (a0.size : Int) = 1 then (if 0 < (a0.size : Int) then (if (bt a0 0) ≥ 65 then (some (decide ((bt a0 0) ≤ 90))) else (some false)) else (none)) else (some false)
theorem spec_l13Letter.calls (a0 : ByteArray) (r : Bool) (w : World) (h : spec_l13Letter.f a0 = some r) :
  Calls Try.prog 68 #[.string a0] w fun e w' => e = .returned (.bool r) ∧ Drawn0 w w' := by
 have H : (if (a0.size : Int) = 1 then (if 0 < (a0.size : Int) then (if (bt a0 0) ≥ 65 then (some (decide ((bt a0 0) ≤ 90))) else (some false)) else (none)) else (some false)) = some r := h; clear h
 by_cases c2 : (a0.size : Int) = 1
 ·rw [zU c2] at H; have c2b0 : ((a0.size : Int) == 1) = true := zM c2; have c2b1 : ((a0.size : Int) != 1) = false := zv c2; clear c2
  by_cases c3 : 0 < (a0.size : Int)
  ·rw [zU c3] at H; have c3b0 : decide (0 < (a0.size : Int)) = true := zc c3; have c3b1 : decide (0 < a0.size) = true := zc (by omega); clear c3
   by_cases c5 : (bt a0 0) ≥ 65
   ·rw [zU c5] at H; have c5b0 : decide (65 ≤ (bt a0 0)) = true := zc c5; clear c5; obtain rfl := zk H; have p4 : 0 ≤ (0 : Int) := (by omega); have q4 : 0 < a0.size := (by have : (0 : Int) < (a0.size : Int) := zb (qP9); omega); have hx4 : ∀ h : 0 < a0.size, ((a0[0]'h).toNat : Int) = bt a0 0 := bt_at a0 0; clear p4; have qi4 : (0 < (a0.size : Int)) = True := zt (zb (qP9)); replace q4 := zt q4; have p6 : 0 ≤ (0 : Int) := (by omega); have q6 : 0 < a0.size := (by have : (0 : Int) < (a0.size : Int) := zb (qP9); omega); have hx6 : ∀ h : 0 < a0.size, ((a0[0]'h).toNat : Int) = bt a0 0 := bt_at a0 0; clear p6; have qi6 : (0 < (a0.size : Int)) = True := zt (zb (qP9)); replace q6 := zt q6
    go_enter Try.func68, Try.ntmps68
    go_wp2
    go_ret
    exact ⟨(qP17), (qP31)⟩
   ·rw [zV c5] at H; have c5b0 : decide (65 ≤ (bt a0 0)) = false := zs c5; clear c5; obtain rfl := zk H; have p4 : 0 ≤ (0 : Int) := (by omega); have q4 : 0 < a0.size := (by have : (0 : Int) < (a0.size : Int) := zb (qP9); omega); have hx4 : ∀ h : 0 < a0.size, ((a0[0]'h).toNat : Int) = bt a0 0 := bt_at a0 0; clear p4; have qi4 : (0 < (a0.size : Int)) = True := zt (zb (qP9)); replace q4 := zt q4
    go_enter Try.func68, Try.ntmps68
    go_wp2
    go_ret
    exact ⟨(qP17), (qP31)⟩
  ·rw [zV c3] at H
   exact zJ H (by simp)
 ·rw [zV c2] at H; have c2b0 : ((a0.size : Int) == 1) = false := zu c2; have c2b1 : ((a0.size : Int) != 1) = true := zN c2; obtain rfl := zk H
  go_enter Try.func68, Try.ntmps68
  go_wp2
  go_ret
  exact ⟨(qP17), (qP31)⟩

end Go.Proofs.Ytckidmhkhlbkeaa.MP
