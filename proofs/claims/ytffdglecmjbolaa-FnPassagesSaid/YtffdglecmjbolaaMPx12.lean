-- Written by a program of this session (wip/drv.py, wip/tight2.py). -- tight2
import Derived.Test.YtffdglecmjbolaaMPx0
import Derived.Test.YtffdglecmjbolaaMPx2
namespace Go.Proofs.Ytffdglecmjbolaa.MP
open Go.RowKit Go.Proofs.YtffdglecmjbolaaW.PrintWords Go.Proofs.YtffdglecmjbolaaW.PrintLast Go.Proofs.YtffdglecmjbolaaW.PrintMore
attribute [local go_sem] max2_int min2_int max_two min_two max_three min_three max_four min_four   -- for this text's walks alone
set_option linter.unusedVariables false
set_option linter.unusedSimpArgs false

/-! ### spec_DrawArePassages: function 40 -/
def spec_DrawArePassages.f (k : Nat) (l0 : List Int) : Option ((List (S60))) := (spec_l1Cur_passages.f k l0 0 0).bind fun bt441 => (some bt441.1)
theorem spec_DrawArePassages.mono : ∀ a0 k, LeO (spec_DrawArePassages.f k a0) (spec_DrawArePassages.f (k + 1) a0) := by
 intro a0 k
 unfold spec_DrawArePassages.f
 have m0 := @spec_l1Cur_passages.mono
 exact qmono
set_option maxHeartbeats 8000000 in
set_option maxRecDepth 100000 in
theorem spec_DrawArePassages.calls (k : Nat) (A0 : Option Addr) (c0 : Nat) (l0 : List Int) (r : List (S60)) (w : World) (hr0 : Kd.C (Kd.int .u8) w A0 l0.length l0) (hc0 : l0.length ≤ c0) (h : spec_DrawArePassages.f k l0 = some r) :
  Calls Try.prog 40 #[.slice A0 l0.length c0] w fun e w' => ∃ v0_ : Value, e = .returned (v0_) ∧ Kd.R k60 60 w' w.heap.size (fun _ => True) v0_ r ∧ Below w.heap.size w w' := by
 have hu50 := Try.underlying50; have HR0 := Aside0.mk hr0; have HC0 := Aside0.mk hc0; clear hr0 hc0; have HB := Aside0.mk (Below.refl w.heap.size w); have H : ((spec_l1Cur_passages.f k l0 0 0).bind fun bt441 => (some bt441.1)) = some r := h; clear h; replace H := Option.bind_eq_some_iff.mp H; obtain ⟨⟨t441, t444, t445⟩, A20, H⟩ := H; replace H : (some t441) = some r := H; have A2 := Aside0.mk A20; clear A20; obtain rfl := Option.some.inj H
 go_enter Try.func40, Try.ntmps40
 go_wp2_with (first | ((with_reducible refine gate_dst (N := 6) rfl ?_); refine box_event ?hg (N := 6) ?hd (cs := #[.slice A0 l0.length c0, .int .i64 0, .int .u64 0]) (t := 50) ?hr ?_; (case hd => rfl); (case hg => rfl); (case hr => exact (qP23)); intro gb440 hg w3 hbox hb; have GW440 := Aside0.mk (by exact (by rw [hg]; exact (below_size (qP0)) : w.heap.size ≤ gb440)); have GE440 := Aside0.mk (by exact (by rw [hg]; exact (below_size (qP0)) : w.heap.size ≤ gb440)); have HI440 := Aside0.mk (by exact (show IsS50 w w3 gb440 l0 0 0 from ⟨_, _, hbox, (qP84), HR0.out⟩)); replace HB := Aside0.mk (qP57); clear hb hbox hg) | ((with_reducible refine gate_callee (f := 24) rfl ?_); refine goesL_ (some 8) rfl rfl Try.func24 (by kernel_rfl) rfl #[.pointer (some ⟨gb440, 0, none⟩)] rfl (qP2) ?_; (with_reducible refine (spec_l1Cur_passages.calls k gb440 l0 0 0 t441 t444 t445 w _ ?s1 ?s2 A2.out).mono ?_); (case s1 => exact (by repeat (first | (with_reducible first | exact HI440.out | apply IsS50.alloc | apply IsS50.drewN | apply IsS50.drew | apply IsS50.set_1 | apply IsS50.set_2) | exact HI440.out))); (case s2 => exact (qP45)); rintro e w4 ⟨v442, rfl, ho0, hi, hb, hk⟩; refine ⟨_, rfl, ?_⟩; have HO443 := Aside0.mk (Kd.R_lower ho0 (below_size (qP45))); replace HB := Aside0.mk (hb); replace HI440 := Aside0.mk (hi); clear hb hk hi ho0))
 go_ret
 exact ⟨_, (qP8), (qP1 HO443.out), (qP45)⟩

/-! ### spec_DrawMeanArea: function 19 -/
def spec_DrawMeanArea.f (k : Nat) (l0 : List Int) : Option ((List (S60))) := (spec_DrawArePassages.f k l0).bind fun t446 => (some t446)
theorem spec_DrawMeanArea.mono : ∀ a0 k, LeO (spec_DrawMeanArea.f k a0) (spec_DrawMeanArea.f (k + 1) a0) := by
 intro a0 k
 unfold spec_DrawMeanArea.f
 have m0 := @spec_DrawArePassages.mono
 exact qmono
set_option maxHeartbeats 8000000 in
set_option maxRecDepth 100000 in
theorem spec_DrawMeanArea.calls (k : Nat) (A0 : Option Addr) (c0 : Nat) (l0 : List Int) (r : List (S60)) (w : World) (hr0 : Kd.C (Kd.int .u8) w A0 l0.length l0) (hc0 : l0.length ≤ c0) (h : spec_DrawMeanArea.f k l0 = some r) :
  Calls Try.prog 19 #[.slice A0 l0.length c0] w fun e w' => ∃ v0_ : Value, e = .returned (v0_) ∧ Kd.R k60 60 w' w.heap.size (fun _ => True) v0_ r ∧ Below w.heap.size w w' := by
 have HR0 := Aside0.mk hr0; have HC0 := Aside0.mk hc0; clear hr0 hc0; have HB := Aside0.mk (Below.refl w.heap.size w); have H : ((spec_DrawArePassages.f k l0).bind fun t446 => (some t446)) = some r := h; clear h; replace H := Option.bind_eq_some_iff.mp H; obtain ⟨t446, A20, H⟩ := H; replace H : (some t446) = some r := H; have A2 := Aside0.mk A20; clear A20; obtain rfl := Option.some.inj H
 go_enter Try.func19, Try.ntmps19
 go_wp2_with (first | ((with_reducible refine gate_callee (f := 40) rfl ?_); refine goesL_ (some 4) rfl rfl Try.func40 (by kernel_rfl) rfl #[.slice A0 l0.length c0] rfl (qP2) ?_; (with_reducible refine (spec_DrawArePassages.calls k _ _ l0 t446 _ ?s1 ?s2 A2.out).mono ?_); (case s1 => exact (qP28 HR0.out)); (case s2 => exact HC0.out); rintro e w3 ⟨v447, rfl, ho0, hb⟩; refine ⟨_, rfl, ?_⟩; have HO448 := Aside0.mk (qP71 ho0); replace HB := Aside0.mk (qP57); clear hb ho0))
 go_ret
 exact ⟨_, (qP8), (qP1 HO448.out), (qP0)⟩

end Go.Proofs.Ytffdglecmjbolaa.MP
