/- For every input, the law FnWays of the given program returns true and leaves its arguments as they were. The table of sines reads as its text lays it (tied). -/
import Derived.Test.YtmbpdegkkdcjnaaDoorRows
import Derived.Test.YtmbpdegkkdcjnaaDoorMWx13
import Derived.Test.YtmbpdegkkdcjnaaDoorPureFnWays
import Derived.Test.YtmbpdegkkdcjnaaDoorOpen
import Derived.WalkKit
import Derived.ProofKit
import Derived.OpenShut
import Derived.ShutString
import Derived.ChangeOld
import Derived.Below
import Derived.SizedLaws
import Derived.Carry
import Derived.ChangeVars
import Derived.LaidMore
import Derived.Lib.LaidTab
import Derived.Stop.Joined
import Derived.SevenTiedAt
import Derived.Test.YtmbpdegkkdcjnaaDoorCards
import Derived.Test.YtmbpdegkkdcjnaaDoorTie
namespace Go.Proofs.YtmbpdegkkdcjnaaDoor.fnWays
open Go.ChangeShapes Go.WideShapes Go.ChangeAt Go.RowKit Go.Proofs.YtmbpdegkkdcjnaaDoor.Open Go.Proofs.YtmbpdegkkdcjnaaDoorW.PrintWords
open Go.ChangeMaps (open_string shut_string)
set_option linter.unusedVariables false
theorem own : ownKnob Tryd.prog.godebug = none := by kernel_rfl
abbrev laid1 : List (String × DataW Unit) := [("loop.example/g00933/impl.sines", Rows.laid_loop_example_g00933_impl_sines)]
theorem gSines : Tryd.prog.globalNamed "loop.example/g00933/impl.sines" = some 0 := by kernel_rfl
theorem tSines : (Tryd.prog.globals[0]?).map (·.type) = some 81 := by kernel_rfl
theorem door_met (os : Os) (args : Array Value) : laidMetH Tryd.prog laid1 ((World.doorLaid Tryd.prog 400 os).forCall (fun _ _ => 0) ⟨#[], args, []⟩).memory :=
  laidMetH_of_parts3 (fuel := 8) (laidMet_of_run' 8 (by kernel_rfl) (by kernel_rfl)) (by kernel_rfl) (by kernel_rfl)
theorem var_below {W W' : World} {cs : Array Value} (hb : Below W.heap.size W W') (h : W.var? Tryd.prog "loop.example/g00933/impl.sines" = some cs) : W'.var? Tryd.prog "loop.example/g00933/impl.sines" = some cs := by
  unfold World.var? at h ⊢
  rw [gSines] at h ⊢
  simp only [Option.bind_some] at h ⊢
  have hg : 0 < W.heap.size := by
    cases hh : W.heap[0]? with
    | none => rw [hh] at h; cases h
    | some o => exact (Array.getElem?_eq_some_iff.1 hh).1
  rw [hb.block 0 hg]; exact h
theorem of_laid {W : World} (h : laidMetH Tryd.prog laid1 W) : MW.TabS W := by
  rw [MakeChecks.laidMetH_plain _ _ _ (by kernel_rfl)] at h
  have hT := Lib.tabIs_of_head (k := .i64) (zs := MW.sinTab) (rest := []) gSines tSines Tryd.underlying81 Tryd.underlying3 (by kernel_rfl) (by kernel_rfl) h
  intro i hi
  exact hT.cell gSines i hi
theorem laidOut : laidOutB Tryd.prog = true := by kernel_rfl
set_option maxRecDepth 100000 in
set_option maxHeartbeats 2000000 in
theorem lifted (os : Os) (started : os.Started) (H : Type) (enc : TypeId × Value → H) :
    ReturnsInHanded {} Tryd.checked os 3 .any (fun w args => (Rows.fnWaysSpec.pre enc Tryd.prog Tryd.f3 Rows.fnWaysRow.domain false w args ∧ laidMetH Tryd.prog laid1 w) ∧ sizedMet enc Tryd.prog Tryd.f3 (OpenSpec.ofChange Rows.fnWaysSpec) false w args) (Rows.fnWaysSpec.post enc Tryd.prog Tryd.f3 false true false false) := by
  refine returnsInHanded_of_change_and (C := Tryd.checked) (X := fun w _ => laidMetH Tryd.prog laid1 w) (fun _ _ _ hh h => h.of_heap hh) own started (by kernel_rfl) Tryd.func3
    (ChangeSpec.witness_shaped (enc := enc) (C := Tryd.checked) (os := os) (X := fun w _ => laidMetH Tryd.prog laid1 w) false (World.doorLaid Tryd.prog 400 os) #[.slice none 0 0] 8 rfl (World.shaped_of_RefB (by kernel_rfl) (by kernel_rfl)) (by kernel_rfl) (by kernel_rfl) (by kernel_rfl) (door_met os _)) ?_
  intro W base args ds gs before hval0 hW _ _ hL _
  have hval : ∀ (j : Nat) t v, Tryd.f3.params[j]? = some t → args[j]? = some v → Value.okWide Tryd.prog W .any base t v := hval0
  have hW' := hW
  obtain ⟨p, q, hA0, hV0, rfl, hfz, hnd⟩ := hW
  have hV : DataW.TrodVars enc Tryd.prog W (fun _ => true) ["loop.example/g00933/impl.sines"] gs q := hV0
  have hA : DataW.TrodAll enc Tryd.prog W 0 (fun _ => true) true Tryd.f3.params.toList args.toList ds p := hA0
  rw [Tryd.params3] at hA hval
  obtain ⟨v0, vs0, d0, ds0, p0, q0, hargs, rfl, rfl, h0, r0⟩ := trodAll_cons hA
  obtain ⟨rfl, rfl, rfl⟩ := trodAll_nil r0
  obtain rfl : args = #[v0] := by cases args; simp_all
  have hV1 := hV
  obtain ⟨gv, tv, csv, fuelv, dv, pv, rfl, hgv, htv, hvarv, hdv, rfl⟩ := trodVars_one hV1
  obtain rfl := Option.some.inj (gSines.symm.trans hgv)
  obtain rfl := Option.some.inj (tSines.symm.trans htv)
  have k0 := h0
  have lt0 : ∀ x ∈ p0, x.block < W.heap.size := by obtain ⟨m, hm⟩ := k0; exact DataW.trod_lt m _ _ _ hm
  obtain ⟨a0, c0, l0, rfl, hc0, hm0, hC0, hw0⟩ := open_slice_Kd (dec_int Tryd.underlying5) Tryd.underlying22 (by kernel_rfl) (hval 0 22 v0 rfl rfl) h0
  clear hA0 hval0
  obtain ⟨k, hk⟩ := Pure.FnWays l0 hm0 hw0
  refine (MW.laws_FnWays.calls k _ _ l0 true W hC0 hc0 hk (of_laid hL)).mono ?_
  rintro e W' ⟨rfl, bel0⟩
  have bel : Below W.heap.size W W' := bel0
  have hvar2 := var_below bel hvarv
  obtain ⟨fuel2, hdv2⟩ := Below.trod (v := .agg csv) laidOut (by kernel_rfl) (of_decide_eq_true (by kernel_rfl)) ⟨fuelv, hdv⟩ bel (fun x hx => DataW.trod_lt fuelv _ _ _ hdv x hx)
  exact ⟨_, rfl, _, _, _, [], _, _, hW', trodAll_mk1 (shut_bool Tryd.underlying4 _), (trodAll_cons_mk (Below.trod laidOut (by kernel_rfl) (of_decide_eq_true (by kernel_rfl)) k0 bel lt0) trodAll_mk0), trodVars_mk1 hgv htv hvar2 hdv2, bel.frame _, fun h => by cases h⟩
theorem over : Rows.fnWaysRow.holds Tryd.pinned (OpenSpec.ofChange Rows.fnWaysSpec) :=
  OpenClaim.holds_of_wide 3 Tryd.f3 rfl rfl rfl rfl rfl rfl rfl ⟨rfl, rfl, rfl, rfl, rfl⟩ rfl rfl rfl rfl rfl (by kernel_rfl) Tryd.func3 (by kernel_rfl)
    (of_decide_eq_true (by kernel_rfl)) (by unfold Func.isWrapper; first | (rw [if_pos (by decide +kernel)]; kernel_rfl) | (rw [if_neg (by decide +kernel)]; exact ⟨rfl, rfl⟩))
    (fun os started H enc _ => lifted os started H enc)
end Go.Proofs.YtmbpdegkkdcjnaaDoor.fnWays
namespace Go.Proofs.YtmbpdegkkdcjnaaDoor
theorem fnWays_holds : Rows.FnWaysSaid := fnWays.over
theorem fnWays_card_holds : Rows.FnWaysCardSaid :=
  Claim7.holds_tied_plain_at .later [] [.data] true (true, "98e7353341a6cb93e7247bddacbe6b6451ebdb5f88fbd6e14435fe71164590fa") false
    fnWays_holds (fun _ h => by cases h) (by kernel_rfl) (fun _ h => by cases h) fnWays_row_tie rfl ⟨rfl, rfl⟩ (by kernel_rfl) rfl
    (fun f fn hf hfn => by
      obtain rfl : f = 3 := Option.some.inj ((show Tryd.prog.funcNamed "loop.example/g00933/laws.FnWays" = some 3 by kernel_rfl).symm.trans hf) |>.symm
      obtain rfl : fn = Tryd.f3 := (Option.some.inj (Tryd.func3.symm.trans hfn)).symm
      exact ⟨by kernel_rfl, fun j t ht => by
        rw [Tryd.params3] at ht
        have hm : t ∈ [22] := by simpa using Array.mem_of_getElem? ht
        have hall : ([22].all fun u => !Tryd.prog.wantsStandIn u) = true := by kernel_rfl
        exact (show Tryd.prog.wantsStandIn t = false by simpa using List.all_eq_true.1 hall t hm)⟩)
    (by kernel_rfl)
#print axioms fnWays_card_holds
end Go.Proofs.YtmbpdegkkdcjnaaDoor
