-- Written by a program of this session (wip/drv.py, wip/tight2.py). -- tight2
import Derived.Test.YtffdglecmjbolaaMPx0
import Derived.Test.YtffdglecmjbolaaMPx2
namespace Go.Proofs.Ytffdglecmjbolaa.MP
open Go.RowKit Go.Proofs.YtffdglecmjbolaaW.PrintWords Go.Proofs.YtffdglecmjbolaaW.PrintLast Go.Proofs.YtffdglecmjbolaaW.PrintMore
attribute [local go_sem] max2_int min2_int max_two min_two max_three min_three max_four min_four   -- for this text's walks alone
set_option linter.unusedVariables false
set_option linter.unusedSimpArgs false

/-! ### spec_DrawMergePassages: function 10 -/
def spec_DrawMergePassages.f (k : Nat) (l0 : List Int) : Option ((List (S60)) × (List (S60))) := (spec_l1Cur_passages.f k l0 0 0).bind fun bt334 => ((spec_l1Cur_passages.f k l0 bt334.2.1 bt334.2.2).bind fun bt339 => (some (bt334.1, bt339.1)))
theorem spec_DrawMergePassages.mono : ∀ a0 k, LeO (spec_DrawMergePassages.f k a0) (spec_DrawMergePassages.f (k + 1) a0) := by
 intro a0 k
 unfold spec_DrawMergePassages.f
 have m0 := @spec_l1Cur_passages.mono
 exact qmono
set_option maxHeartbeats 8000000 in
set_option maxRecDepth 100000 in
theorem spec_DrawMergePassages.calls (k : Nat) (A0 : Option Addr) (c0 : Nat) (l0 : List Int) (r1 : List (S60)) (r2 : List (S60)) (w : World) (hr0 : Kd.C (Kd.int .u8) w A0 l0.length l0) (hc0 : l0.length ≤ c0) (h : spec_DrawMergePassages.f k l0 = some (r1, r2)) :
  Calls Try.prog 10 #[.slice A0 l0.length c0] w fun e w' => ∃ v0_ v1_ : Value, e = .returned (.tuple #[v0_, v1_]) ∧ Kd.R k60 60 w' w.heap.size (fun k_ => some k_ ≠ (v1_ : Value).ownBlock) v0_ r1 ∧ Kd.R k60 60 w' w.heap.size (fun k_ => some k_ ≠ (v0_ : Value).ownBlock) v1_ r2 ∧ Below w.heap.size w w' := by
 have hu50 := Try.underlying50; have HR0 := Aside0.mk hr0; have HC0 := Aside0.mk hc0; clear hr0 hc0; have HB := Aside0.mk (Below.refl w.heap.size w); have H : ((spec_l1Cur_passages.f k l0 0 0).bind fun bt334 => ((spec_l1Cur_passages.f k l0 bt334.2.1 bt334.2.2).bind fun bt339 => (some (bt334.1, bt339.1)))) = some (r1, r2) := h; clear h; replace H := bindA H; obtain ⟨⟨t334, t337, t338⟩, A2, H⟩ := H; (try dsimp only at H); replace H := Option.bind_eq_some_iff.mp H; obtain ⟨⟨t339, t342, t343⟩, A30, H⟩ := H; replace H : (some (t334, t339)) = some (r1, r2) := H; have A3 := Aside0.mk A30; clear A30; simp only [Option.some.injEq, Prod.mk.injEq] at H; obtain ⟨rfl, rfl⟩ := H
 go_enter Try.func10, Try.ntmps10
 go_wp2_with (first | ((with_reducible refine gate_dst (N := 7) rfl ?_); refine box_event ?hg (N := 7) ?hd (cs := #[.slice A0 l0.length c0, .int .i64 0, .int .u64 0]) (t := 50) ?hr ?_; (case hd => rfl); (case hg => rfl); (case hr => exact (qP23)); intro gb333 hg w4 hbox hb; have GW333 := Aside0.mk (by exact (by rw [hg]; exact (below_size (qP0)) : w.heap.size ≤ gb333)); have GE333 := Aside0.mk (by exact (by rw [hg]; exact (below_size (qP0)) : w.heap.size ≤ gb333)); have HI333 := Aside0.mk (by exact (show IsS50 w w4 gb333 l0 0 0 from ⟨_, _, hbox, (qP84), HR0.out⟩)); replace HB := Aside0.mk (qP57); clear hb hbox hg) | ((with_reducible refine gate_callee (f := 24) rfl ?_); refine goesL_ (some 9) rfl rfl Try.func24 (by kernel_rfl) rfl #[.pointer (some ⟨gb333, 0, none⟩)] rfl (qP2) ?_; (with_reducible refine (spec_l1Cur_passages.calls k gb333 l0 0 0 t334 t337 t338 w _ ?s1 ?s2 A2.out).mono ?_); (case s1 => exact (qP46)); (case s2 => exact (qP37)); rintro e w5 ⟨v335, rfl, ho0, hi, hb, hk⟩; refine ⟨_, rfl, ?_⟩; have HO336 := Aside0.mk (Kd.R_lower ho0 (below_size (qP37))); replace HB := Aside0.mk (hb); replace HI333 := Aside0.mk (hi); clear hb hk hi ho0) | ((with_reducible refine gate_callee (f := 24) rfl ?_); refine goesL_ (some 11) rfl rfl Try.func24 (by kernel_rfl) rfl #[.pointer (some ⟨gb333, 0, none⟩)] rfl (qP2) ?_; (with_reducible refine (spec_l1Cur_passages.calls k gb333 l0 t337 t338 t339 t342 t343 w _ ?s1 ?s2 A3.out).mono ?_); (case s1 => exact (qP46)); (case s2 => exact (qP37)); rintro e w6 ⟨v340, rfl, ho0, hi, hb, hk⟩; refine ⟨_, rfl, ?_⟩; have HO341 := Aside0.mk (Kd.R_lower (Kd.R_new' ho0 (Kd.R_lt (qP1 HO336.out))) (below_size (qP37))); replace HO336 := Aside0.mk (by exact Kd.R_mono (Kd.R_told (Kd.R_oldK (IsS50.apart (show IsS50 w _ gb333 l0 t337 t338 from (qP46)) (qP1 HO336.out) (by decide)) hk) (Kd.R_base ho0)) (fun _ h_ => h_.1)); replace HB := Aside0.mk (hb); replace HI333 := Aside0.mk (hi); clear hb hk hi ho0))
 go_ret2
 exact ⟨_, _, (qP8), (by (with_reducible repeat (first | apply Kd.R_alloc | apply Kd.R_drewN | apply Kd.R_drew)); exact Kd.R_mono HO336.out (fun _ hk => hk.2)), (by (with_reducible repeat (first | apply Kd.R_alloc | apply Kd.R_drewN | apply Kd.R_drew)); exact Kd.R_mono HO341.out (fun _ hk => hk.2)), (qP37)⟩

end Go.Proofs.Ytffdglecmjbolaa.MP
