-- Written by a program of this session (wip/drv.py, wip/tight2.py). -- tight2
import Derived.Test.YtmbpdegkkdcjnaaDoorMWx0
import Derived.Test.YtmbpdegkkdcjnaaDoorMWx2
namespace Go.Proofs.YtmbpdegkkdcjnaaDoor.MW
open Go.RowKit Go.Proofs.YtmbpdegkkdcjnaaDoorW.PrintWords Go.Proofs.YtmbpdegkkdcjnaaDoorW.PrintLast Go.Proofs.YtmbpdegkkdcjnaaDoorW.PrintMore
attribute [local go_sem] max2_int min2_int max_two min_two max_three min_three max_four min_four   -- for this text's walks alone
set_option linter.unusedVariables false
set_option linter.unusedSimpArgs false

/-! ### spec_DrawJoinWays: function 16 -/
def spec_DrawJoinWays.f (k : Nat) (l0 : List Int) : Option ((List (S44)) × (List (S44))) := (spec_l1Cur_way14.f k l0 0 0).bind fun bt250 => ((spec_l1Cur_way14.f k l0 bt250.2.1 bt250.2.2).bind fun bt255 => (some (bt250.1, bt255.1)))
theorem spec_DrawJoinWays.mono : ∀ a0 k, LeO (spec_DrawJoinWays.f k a0) (spec_DrawJoinWays.f (k + 1) a0) := by
 intro a0 k
 unfold spec_DrawJoinWays.f
 have m0 := @spec_l1Cur_way14.mono
 exact qmono
set_option maxHeartbeats 8000000 in
set_option maxRecDepth 100000 in
theorem spec_DrawJoinWays.calls (k : Nat) (A0 : Option Addr) (c0 : Nat) (l0 : List Int) (r1 : List (S44)) (r2 : List (S44)) (w : World) (hr0 : Kd.C (Kd.int .u8) w A0 l0.length l0) (hc0 : l0.length ≤ c0) (h : spec_DrawJoinWays.f k l0 = some (r1, r2)) :
  Calls Tryd.prog 16 #[.slice A0 l0.length c0] w fun e w' => ∃ v0_ v1_ : Value, e = .returned (.tuple #[v0_, v1_]) ∧ Kd.R k44 44 w' w.heap.size (fun k_ => some k_ ≠ (v1_ : Value).ownBlock) v0_ r1 ∧ Kd.R k44 44 w' w.heap.size (fun k_ => some k_ ≠ (v0_ : Value).ownBlock) v1_ r2 ∧ Below w.heap.size w w' := by
 have hu54 := Tryd.underlying54
 have HR0 := Aside0.mk hr0; have HC0 := Aside0.mk hc0; clear hr0 hc0
 have HB := Aside0.mk (Below.refl w.heap.size w)
 have H : ((spec_l1Cur_way14.f k l0 0 0).bind fun bt250 => ((spec_l1Cur_way14.f k l0 bt250.2.1 bt250.2.2).bind fun bt255 => (some (bt250.1, bt255.1)))) = some (r1, r2) := h
 clear h; replace H := Option.bind_eq_some_iff.mp H; obtain ⟨⟨t250, t253, t254⟩, A20, H⟩ := H
 try dsimp only at H
 have A2 := Aside0.mk A20; clear A20; replace H := Option.bind_eq_some_iff.mp H; obtain ⟨⟨t255, t258, t259⟩, A30, H⟩ := H
 replace H : (some (t250, t255)) = some (r1, r2) := H
 have A3 := Aside0.mk A30; clear A30
 simp only [Option.some.injEq, Prod.mk.injEq] at H
 obtain ⟨rfl, rfl⟩ := H
 go_enter Tryd.func16, Tryd.ntmps16
 go_wp2_with (first | ((with_reducible refine gate_dst (N := 7) rfl ?_); refine box_event ?hg (N := 7) ?hd (cs := #[.slice A0 l0.length c0, .int .i64 0, .int .u64 0]) (t := 54) ?hr ?_; (case hd => rfl); (case hg => rfl); (case hr => exact (qW22)); intro gb249 hg w4 hbox hb; have GW249 := Aside0.mk ((by rw [hg]; exact (below_size (qW0)) : w.heap.size ≤ gb249)); have GE249 := Aside0.mk ((by rw [hg]; exact (below_size (qW0)) : w.heap.size ≤ gb249)); have HI249 := Aside0.mk ((show IsS54 w w4 gb249 l0 0 0 from ⟨_, _, hbox, (by rw [hg]; exact (below_size (qW0))), HR0.out⟩)); replace HB := Aside0.mk (below_step (qW0) hb); clear hb hbox hg) | ((with_reducible refine gate_callee (f := 29) rfl ?_); refine goesL_ (some 9) rfl rfl Tryd.func29 (by kernel_rfl) rfl #[.pointer (some ⟨gb249, 0, none⟩)] rfl (qW1) ?_; (with_reducible refine (spec_l1Cur_way14.calls k gb249 l0 0 0 t250 t253 t254 w _ ?side1 ?side2 A2.out).mono ?_); (case side1 => exact (qW54)); (case side2 => exact (qW48)); rintro e w5 ⟨v251, rfl, ho0, hi, hb, hk⟩; refine ⟨_, rfl, ?_⟩; have HO252 := Aside0.mk (Kd.R_lower ho0 (below_size (qW48))); replace HB := Aside0.mk (hb); replace HI249 := Aside0.mk (hi); clear hb hk hi ho0) | ((with_reducible refine gate_callee (f := 29) rfl ?_); refine goesL_ (some 11) rfl rfl Tryd.func29 (by kernel_rfl) rfl #[.pointer (some ⟨gb249, 0, none⟩)] rfl (qW1) ?_; (with_reducible refine (spec_l1Cur_way14.calls k gb249 l0 t253 t254 t255 t258 t259 w _ ?side1 ?side2 A3.out).mono ?_); (case side1 => exact (qW54)); (case side2 => exact (qW48)); rintro e w6 ⟨v256, rfl, ho0, hi, hb, hk⟩; refine ⟨_, rfl, ?_⟩; have HO257 := Aside0.mk (Kd.R_lower (Kd.R_new' ho0 (Kd.R_lt (qW2 HO252.out))) (below_size (qW48))); replace HO252 := Aside0.mk (Kd.R_mono (Kd.R_told (Kd.R_oldK (IsS54.apart (show IsS54 w _ gb249 l0 t253 t254 from (qW54)) (qW2 HO252.out) (by decide)) hk) (Kd.R_base ho0)) (fun _ h_ => h_.1)); replace HB := Aside0.mk (hb); replace HI249 := Aside0.mk (hi); clear hb hk hi ho0))
 go_ret2
 exact ⟨_, _, (qW9), (qW58 HO252.out), (qW58 HO257.out), (qW48)⟩

end Go.Proofs.YtmbpdegkkdcjnaaDoor.MW
