-- Written by a program of this session (wip/drv.py, wip/tight.py).
import Derived.Test.YtfbkhdlhkfbfcaaDoorMAx0
import Derived.Test.YtfbkhdlhkfbfcaaDoorMAx1
import Derived.Test.YtfbkhdlhkfbfcaaDoorMAx5
import Derived.Test.YtfbkhdlhkfbfcaaDoorMAx6
import Derived.Test.YtfbkhdlhkfbfcaaDoorMAx8
import Derived.Test.YtfbkhdlhkfbfcaaDoorMAx9
import Derived.Test.YtfbkhdlhkfbfcaaDoorMAx10
namespace Go.Proofs.YtfbkhdlhkfbfcaaDoor.MA
open Go.RowKit Go.Proofs.YtfbkhdlhkfbfcaaDoorW.PrintWords Go.Proofs.YtfbkhdlhkfbfcaaDoorW.PrintLast Go.Proofs.YtfbkhdlhkfbfcaaDoorW.PrintMore
theorem qA11_0 {p : Prop} (h : p := by (with_reducible repeat (first | refine blk_drewN ?_ _ | refine blk_drew ?_ | refine blk_alloc ?_ _)); exact BK293.out) : p := h
theorem qA11_1 {p : Prop} (h : p := by (with_reducible repeat (first | refine blk_drewN ?_ _ | refine blk_drew ?_ | refine blk_alloc ?_ _)); refine blk_put (cs := #[.int .i64 t325, .int .i64 t326, .int .i64 t327, .int .i64 t328, .int .i64 t329, .int .i64 t330, .int .i64 t331, .int .i64 t332, .int .i64 t333, .int .i64 t334, .int .i64 t335, .int .i64 0]) ?_ 11 _ rfl; (with_reducible repeat (first | refine blk_drewN ?_ _ | refine blk_drew ?_ | refine blk_alloc ?_ _)); refine blk_put (cs := #[.int .i64 t325, .int .i64 t326, .int .i64 t327, .int .i64 t328, .int .i64 t329, .int .i64 t330, .int .i64 t331, .int .i64 t332, .int .i64 t333, .int .i64 t334, .int .i64 0, .int .i64 0]) ?_ 10 _ rfl; (with_reducible repeat (first | refine blk_drewN ?_ _ | refine blk_drew ?_ | refine blk_alloc ?_ _)); refine blk_put (cs := #[.int .i64 t325, .int .i64 t326, .int .i64 t327, .int .i64 t328, .int .i64 t329, .int .i64 t330, .int .i64 t331, .int .i64 t332, .int .i64 t333, .int .i64 0, .int .i64 0, .int .i64 0]) ?_ 9 _ rfl; (with_reducible repeat (first | refine blk_drewN ?_ _ | refine blk_drew ?_ | refine blk_alloc ?_ _)); refine blk_put (cs := #[.int .i64 t325, .int .i64 t326, .int .i64 t327, .int .i64 t328, .int .i64 t329, .int .i64 t330, .int .i64 t331, .int .i64 t332, .int .i64 0, .int .i64 0, .int .i64 0, .int .i64 0]) ?_ 8 _ rfl; (with_reducible repeat (first | refine blk_drewN ?_ _ | refine blk_drew ?_ | refine blk_alloc ?_ _)); refine blk_put (cs := #[.int .i64 t325, .int .i64 t326, .int .i64 t327, .int .i64 t328, .int .i64 t329, .int .i64 t330, .int .i64 t331, .int .i64 0, .int .i64 0, .int .i64 0, .int .i64 0, .int .i64 0]) ?_ 7 _ rfl; (with_reducible repeat (first | refine blk_drewN ?_ _ | refine blk_drew ?_ | refine blk_alloc ?_ _)); refine blk_put (cs := #[.int .i64 t325, .int .i64 t326, .int .i64 t327, .int .i64 t328, .int .i64 t329, .int .i64 t330, .int .i64 0, .int .i64 0, .int .i64 0, .int .i64 0, .int .i64 0, .int .i64 0]) ?_ 6 _ rfl; (with_reducible repeat (first | refine blk_drewN ?_ _ | refine blk_drew ?_ | refine blk_alloc ?_ _)); refine blk_put (cs := #[.int .i64 t325, .int .i64 t326, .int .i64 t327, .int .i64 t328, .int .i64 t329, .int .i64 0, .int .i64 0, .int .i64 0, .int .i64 0, .int .i64 0, .int .i64 0, .int .i64 0]) ?_ 5 _ rfl; (with_reducible repeat (first | refine blk_drewN ?_ _ | refine blk_drew ?_ | refine blk_alloc ?_ _)); refine blk_put (cs := #[.int .i64 t325, .int .i64 t326, .int .i64 t327, .int .i64 t328, .int .i64 0, .int .i64 0, .int .i64 0, .int .i64 0, .int .i64 0, .int .i64 0, .int .i64 0, .int .i64 0]) ?_ 4 _ rfl; (with_reducible repeat (first | refine blk_drewN ?_ _ | refine blk_drew ?_ | refine blk_alloc ?_ _)); refine blk_put (cs := #[.int .i64 t325, .int .i64 t326, .int .i64 t327, .int .i64 0, .int .i64 0, .int .i64 0, .int .i64 0, .int .i64 0, .int .i64 0, .int .i64 0, .int .i64 0, .int .i64 0]) ?_ 3 _ rfl; (with_reducible repeat (first | refine blk_drewN ?_ _ | refine blk_drew ?_ | refine blk_alloc ?_ _)); refine blk_put (cs := #[.int .i64 t325, .int .i64 t326, .int .i64 0, .int .i64 0, .int .i64 0, .int .i64 0, .int .i64 0, .int .i64 0, .int .i64 0, .int .i64 0, .int .i64 0, .int .i64 0]) ?_ 2 _ rfl; (with_reducible repeat (first | refine blk_drewN ?_ _ | refine blk_drew ?_ | refine blk_alloc ?_ _)); refine blk_put (cs := #[.int .i64 t325, .int .i64 0, .int .i64 0, .int .i64 0, .int .i64 0, .int .i64 0, .int .i64 0, .int .i64 0, .int .i64 0, .int .i64 0, .int .i64 0, .int .i64 0]) ?_ 1 _ rfl; (with_reducible repeat (first | refine blk_drewN ?_ _ | refine blk_drew ?_ | refine blk_alloc ?_ _)); refine blk_put (cs := #[.int .i64 0, .int .i64 0, .int .i64 0, .int .i64 0, .int .i64 0, .int .i64 0, .int .i64 0, .int .i64 0, .int .i64 0, .int .i64 0, .int .i64 0, .int .i64 0]) ?_ 0 _ rfl; (with_reducible repeat (first | refine blk_drewN ?_ _ | refine blk_drew ?_ | refine blk_alloc ?_ _)); exact BK338.out) : p := h
theorem qA11_2 {p : Prop} (h : p := by repeat (first | (with_reducible first | exact HB.out | apply below_alloc | apply pw_below_drewN | apply below_drew1 | refine below_set ?_ GE293.out | refine below_set ?_ GE316.out) | exact HB.out)) : p := h
theorem qA11_3 {p : Prop} (h : p := by repeat (first | (with_reducible first | exact HB.out | apply below_alloc | apply pw_below_drewN | apply below_drew1 | refine below_set ?_ GE293.out) | exact HB.out)) : p := h
theorem qA11_4 {p : Prop} (h : p := by repeat (first | (with_reducible first | exact HB.out | apply below_alloc | apply pw_below_drewN | apply below_drew1 | refine below_set ?_ GE293.out | refine below_set ?_ GE316.out | refine below_set ?_ GE338.out) | exact HB.out)) : p := h
theorem qA11_5 {p : Prop} (h : p := by (try simp only [List.map_toArray, List.map_cons, List.map_nil]); first | done | rfl | (simp only [List.length_drop, List.length_take]; rfl)) : p := h
theorem qA11_6 {p : Prop} (h : p := by (with_reducible repeat (first | refine blk_drewN ?_ _ | refine blk_drew ?_ | refine blk_alloc ?_ _)); exact BK316.out) : p := h
theorem qA11_7 {p : Prop} (h : p := by (with_reducible repeat (first | refine blk_drewN ?_ _ | refine blk_drew ?_ | refine blk_alloc ?_ _)); refine blk_far ?_ NB293_338.out _; (with_reducible repeat (first | refine blk_drewN ?_ _ | refine blk_drew ?_ | refine blk_alloc ?_ _)); refine blk_far ?_ NB293_338.out _; (with_reducible repeat (first | refine blk_drewN ?_ _ | refine blk_drew ?_ | refine blk_alloc ?_ _)); refine blk_far ?_ NB293_338.out _; (with_reducible repeat (first | refine blk_drewN ?_ _ | refine blk_drew ?_ | refine blk_alloc ?_ _)); refine blk_far ?_ NB293_338.out _; (with_reducible repeat (first | refine blk_drewN ?_ _ | refine blk_drew ?_ | refine blk_alloc ?_ _)); refine blk_far ?_ NB293_338.out _; (with_reducible repeat (first | refine blk_drewN ?_ _ | refine blk_drew ?_ | refine blk_alloc ?_ _)); refine blk_far ?_ NB293_338.out _; (with_reducible repeat (first | refine blk_drewN ?_ _ | refine blk_drew ?_ | refine blk_alloc ?_ _)); refine blk_far ?_ NB293_338.out _; (with_reducible repeat (first | refine blk_drewN ?_ _ | refine blk_drew ?_ | refine blk_alloc ?_ _)); refine blk_far ?_ NB293_338.out _; (with_reducible repeat (first | refine blk_drewN ?_ _ | refine blk_drew ?_ | refine blk_alloc ?_ _)); refine blk_far ?_ NB293_338.out _; (with_reducible repeat (first | refine blk_drewN ?_ _ | refine blk_drew ?_ | refine blk_alloc ?_ _)); refine blk_far ?_ NB293_338.out _; (with_reducible repeat (first | refine blk_drewN ?_ _ | refine blk_drew ?_ | refine blk_alloc ?_ _)); refine blk_far ?_ NB293_338.out _; (with_reducible repeat (first | refine blk_drewN ?_ _ | refine blk_drew ?_ | refine blk_alloc ?_ _)); refine blk_far ?_ NB293_338.out _; (with_reducible repeat (first | refine blk_drewN ?_ _ | refine blk_drew ?_ | refine blk_alloc ?_ _)); exact BK293.out) : p := h
theorem qA11_8 {p : Prop} (h : p := by (with_reducible repeat (first | refine blk_drewN ?_ _ | refine blk_drew ?_ | refine blk_alloc ?_ _)); refine blk_far ?_ NB316_338.out _; (with_reducible repeat (first | refine blk_drewN ?_ _ | refine blk_drew ?_ | refine blk_alloc ?_ _)); refine blk_far ?_ NB316_338.out _; (with_reducible repeat (first | refine blk_drewN ?_ _ | refine blk_drew ?_ | refine blk_alloc ?_ _)); refine blk_far ?_ NB316_338.out _; (with_reducible repeat (first | refine blk_drewN ?_ _ | refine blk_drew ?_ | refine blk_alloc ?_ _)); refine blk_far ?_ NB316_338.out _; (with_reducible repeat (first | refine blk_drewN ?_ _ | refine blk_drew ?_ | refine blk_alloc ?_ _)); refine blk_far ?_ NB316_338.out _; (with_reducible repeat (first | refine blk_drewN ?_ _ | refine blk_drew ?_ | refine blk_alloc ?_ _)); refine blk_far ?_ NB316_338.out _; (with_reducible repeat (first | refine blk_drewN ?_ _ | refine blk_drew ?_ | refine blk_alloc ?_ _)); refine blk_far ?_ NB316_338.out _; (with_reducible repeat (first | refine blk_drewN ?_ _ | refine blk_drew ?_ | refine blk_alloc ?_ _)); refine blk_far ?_ NB316_338.out _; (with_reducible repeat (first | refine blk_drewN ?_ _ | refine blk_drew ?_ | refine blk_alloc ?_ _)); refine blk_far ?_ NB316_338.out _; (with_reducible repeat (first | refine blk_drewN ?_ _ | refine blk_drew ?_ | refine blk_alloc ?_ _)); refine blk_far ?_ NB316_338.out _; (with_reducible repeat (first | refine blk_drewN ?_ _ | refine blk_drew ?_ | refine blk_alloc ?_ _)); refine blk_far ?_ NB316_338.out _; (with_reducible repeat (first | refine blk_drewN ?_ _ | refine blk_drew ?_ | refine blk_alloc ?_ _)); refine blk_far ?_ NB316_338.out _; (with_reducible repeat (first | refine blk_drewN ?_ _ | refine blk_drew ?_ | refine blk_alloc ?_ _)); exact BK316.out) : p := h
theorem qA11_9 {p : Prop} (h : p := by (with_reducible repeat (first | apply Kd.R_alloc | apply Kd.R_drewN | apply Kd.R_drew)); exact HO297.out) : p := h
theorem qA11_10 {p : Prop} (h : p := by (with_reducible repeat (first | apply Kd.R_alloc | apply Kd.R_drewN | apply Kd.R_drew)); exact (Kd.R_mono (Kd.R_far (p := ⟨gb316, 11, none⟩) (Kd.R_far (p := ⟨gb316, 10, none⟩) (Kd.R_far (p := ⟨gb316, 9, none⟩) (Kd.R_far (p := ⟨gb316, 8, none⟩) (Kd.R_far (p := ⟨gb316, 7, none⟩) (Kd.R_far (p := ⟨gb316, 6, none⟩) (Kd.R_far (p := ⟨gb316, 5, none⟩) (Kd.R_far (p := ⟨gb316, 4, none⟩) (Kd.R_far (p := ⟨gb316, 3, none⟩) (Kd.R_far (p := ⟨gb316, 2, none⟩) (Kd.R_far (p := ⟨gb316, 1, none⟩) (Kd.R_far (p := ⟨gb316, 0, none⟩) (Kd.R_types HO297.out BK316.out (by decide)) (fun _ hk => hk.2) (.int .i64 t303)) (fun _ hk => hk.2) (.int .i64 t304)) (fun _ hk => hk.2) (.int .i64 t305)) (fun _ hk => hk.2) (.int .i64 t306)) (fun _ hk => hk.2) (.int .i64 t307)) (fun _ hk => hk.2) (.int .i64 t308)) (fun _ hk => hk.2) (.int .i64 t309)) (fun _ hk => hk.2) (.int .i64 t310)) (fun _ hk => hk.2) (.int .i64 t311)) (fun _ hk => hk.2) (.int .i64 t312)) (fun _ hk => hk.2) (.int .i64 t313)) (fun _ hk => hk.2) (.int .i64 t314)) (fun _ h_ => h_.1))) : p := h
theorem qA11_11 {p : Prop} (h : p := by (with_reducible repeat (first | apply Kd.R_alloc | apply Kd.R_drewN | apply Kd.R_drew)); exact (Kd.R_mono (Kd.R_far (p := ⟨gb338, 11, none⟩) (Kd.R_far (p := ⟨gb338, 10, none⟩) (Kd.R_far (p := ⟨gb338, 9, none⟩) (Kd.R_far (p := ⟨gb338, 8, none⟩) (Kd.R_far (p := ⟨gb338, 7, none⟩) (Kd.R_far (p := ⟨gb338, 6, none⟩) (Kd.R_far (p := ⟨gb338, 5, none⟩) (Kd.R_far (p := ⟨gb338, 4, none⟩) (Kd.R_far (p := ⟨gb338, 3, none⟩) (Kd.R_far (p := ⟨gb338, 2, none⟩) (Kd.R_far (p := ⟨gb338, 1, none⟩) (Kd.R_far (p := ⟨gb338, 0, none⟩) (Kd.R_types HO297.out BK338.out (by decide)) (fun _ hk => hk.2) (.int .i64 t325)) (fun _ hk => hk.2) (.int .i64 t326)) (fun _ hk => hk.2) (.int .i64 t327)) (fun _ hk => hk.2) (.int .i64 t328)) (fun _ hk => hk.2) (.int .i64 t329)) (fun _ hk => hk.2) (.int .i64 t330)) (fun _ hk => hk.2) (.int .i64 t331)) (fun _ hk => hk.2) (.int .i64 t332)) (fun _ hk => hk.2) (.int .i64 t333)) (fun _ hk => hk.2) (.int .i64 t334)) (fun _ hk => hk.2) (.int .i64 t335)) (fun _ hk => hk.2) (.int .i64 t336)) (fun _ h_ => h_.1))) : p := h
theorem qA11_12 {p : Prop} (h : p := by (with_reducible repeat (first | apply Kd.R_alloc | apply Kd.R_drewN | apply Kd.R_drew)); exact (Kd.R_mono (Kd.R_far (p := ⟨gb338, 11, none⟩) (Kd.R_far (p := ⟨gb338, 10, none⟩) (Kd.R_far (p := ⟨gb338, 9, none⟩) (Kd.R_far (p := ⟨gb338, 8, none⟩) (Kd.R_far (p := ⟨gb338, 7, none⟩) (Kd.R_far (p := ⟨gb338, 6, none⟩) (Kd.R_far (p := ⟨gb338, 5, none⟩) (Kd.R_far (p := ⟨gb338, 4, none⟩) (Kd.R_far (p := ⟨gb338, 3, none⟩) (Kd.R_far (p := ⟨gb338, 2, none⟩) (Kd.R_far (p := ⟨gb338, 1, none⟩) (Kd.R_far (p := ⟨gb338, 0, none⟩) (Kd.R_types HO319.out BK338.out (by decide)) (fun _ hk => hk.2) (.int .i64 t325)) (fun _ hk => hk.2) (.int .i64 t326)) (fun _ hk => hk.2) (.int .i64 t327)) (fun _ hk => hk.2) (.int .i64 t328)) (fun _ hk => hk.2) (.int .i64 t329)) (fun _ hk => hk.2) (.int .i64 t330)) (fun _ hk => hk.2) (.int .i64 t331)) (fun _ hk => hk.2) (.int .i64 t332)) (fun _ hk => hk.2) (.int .i64 t333)) (fun _ hk => hk.2) (.int .i64 t334)) (fun _ hk => hk.2) (.int .i64 t335)) (fun _ hk => hk.2) (.int .i64 t336)) (fun _ h_ => h_.1))) : p := h
theorem qA11_13 {p : Prop} (h : p := by repeat (first | exact (Kd.C_below HR0.out HB.out) | (with_reducible refine Kd.C_alloc ?_ _) | (with_reducible refine Kd.C_drewN ?_ _) | (with_reducible refine Kd.C_drew ?_))) : p := h
theorem qA11_14 {p : Prop} (h : p := by repeat (first | (with_reducible first | exact HB.out | apply below_alloc | apply pw_below_drewN | apply below_drew1) | exact HB.out)) : p := h
theorem qA11_15 {p : Prop} (h : p := by (with_reducible repeat (first | refine blk_drewN ?_ _ | refine blk_drew ?_ | refine blk_alloc ?_ _)); exact BK338.out) : p := h
theorem qA11_16 {p : Prop} (h : p := by repeat (first | exact (Kd.R_reads' HO297.out).2.2 | (with_reducible refine Kd.C_alloc ?_ _) | (with_reducible refine Kd.C_drewN ?_ _) | (with_reducible refine Kd.C_drew ?_))) : p := h
theorem qA11_17 {p : Prop} (h : p := by (with_reducible repeat (first | apply Kd.R_alloc | apply Kd.R_drewN | apply Kd.R_drew)); exact HO_8.out) : p := h
theorem qA11_18 {p : Prop} (h : p := by exact any_of HT_.out (by kernel_rfl)) : p := h
theorem qA11_19 {p : Prop} (h : p := by simp only [putAll, Act.put, List.setIfInBounds_toArray, List.set_cons_zero, List.set_cons_succ]) : p := h
theorem qA11_20 {p : Prop} (h : p := by first | rfl | (simp [errW_none, errW_some] <;> rfl) | (simp [*, errW_none, errW_some] <;> rfl)) : p := h
theorem qA11_21 {p : Prop} (h : p := by exact one_of HT_.out (by kernel_rfl)) : p := h
theorem qA11_22 {p : Prop} (h : p := by first | (go_simp; done) | (go_simp; rfl)) : p := h
theorem qA11_23 {p : Prop} (h : p := by (with_reducible repeat (first | apply Kd.R_alloc | apply Kd.R_drewN | apply Kd.R_drew)); exact HO319.out) : p := h
theorem qA11_24 {p : Prop} (h : p := by repeat (first | exact (Kd.R_reads' HO342.out).2.2 | (with_reducible refine Kd.C_alloc ?_ _) | (with_reducible refine Kd.C_drewN ?_ _) | (with_reducible refine Kd.C_drew ?_))) : p := h
theorem qA11_25 {p : Prop} (h : p := by repeat (first | exact (Kd.R_reads' HO_8.out).2.2 | (with_reducible refine Kd.C_alloc ?_ _) | (with_reducible refine Kd.C_drewN ?_ _) | (with_reducible refine Kd.C_drew ?_))) : p := h
theorem qA11_26 {p : Prop} (h : p := by (with_reducible repeat (first | apply Kd.R_alloc | apply Kd.R_drewN | apply Kd.R_drew)); exact Kd.R_mono HO319.out (fun _ hk => trivial)) : p := h
theorem qA11_27 {p : Prop} (h : p := by (with_reducible repeat (first | apply Kd.R_alloc | apply Kd.R_drewN | apply Kd.R_drew)); exact HO342.out) : p := h
theorem qA11_c0 {p : Prop} (h : p := by
  simp only [Act.put, List.setIfInBounds_toArray, List.set_cons_zero, List.set_cons_succ, i64_w, i32_w]
  rfl) : p := h
theorem qA11_c1 {p : Prop} (h : p := by
  show Act.put _ (some 21) _ = _
  simp only [Act.put, List.setIfInBounds_toArray, List.set_cons_zero, List.set_cons_succ, i64_w, i32_w]
  rfl) : p := h
theorem qA11_c2 {p : Prop} (h : p := by
  show Act.put _ (some 6) _ = _
  simp only [Act.put, List.setIfInBounds_toArray, List.set_cons_zero, List.set_cons_succ, i64_w, i32_w]
  rfl) : p := h
theorem qA11_c3 {p : Prop} (h : p := by
  intro w'
  go_simp
  with_reducible rfl) : p := h
theorem qA11_c4 {p : Prop} (h : p := by
  show Act.put _ (some 20) _ = _
  simp only [Act.put, List.setIfInBounds_toArray, List.set_cons_zero, List.set_cons_succ, i64_w, i32_w]
  rfl) : p := h
abbrev qA11_b0 : Array Bool := #[true, true, true, true, true, true, true, true, true, false, false]
abbrev qA11_b1 : Array Bool := #[true, true, true, false, false, false, false, false, true, false, false]
abbrev qA11_b2 : Array Bool := #[true, true, true, true, false, false, false, false, true, false, false]
abbrev qA11_b3 : Array Bool := #[true, true, true, true, true, false, false, false, true, false, false]
abbrev qA11_b4 : Array Bool := #[true, true, true, true, true, true, false, false, true, false, false]
abbrev qA11_b5 : Array Bool := #[true, true, true, true, true, true, true, false, true, false, false]
attribute [local go_sem] max2_int min2_int max_two min_two max_three min_three max_four min_four   -- for this text's walks alone
set_option linter.unusedVariables false
set_option linter.unusedSimpArgs false

/-! ### laws_FnExactWallsAt: function 3 -/
def laws_FnExactWallsAt.j0 : Nat → List (S64) → List (S43) → Bool → Option (Bool)
 | 0, _, _, _ => none
 | k + 1, x0, x8, x41 => if x41 = true then (some false) else ((laws_toPassageS.f k x0).bind fun t340 => ((laws_eqPassageS.f k x8 t340).bind fun t343 => (if t343 = true then (some true) else (some false))))
def laws_FnExactWallsAt.f (k : Nat) (l0 : List (S64)) (a1_0 : Int) (a1_1 : Int) (a1_2 : Int) (a1_3 : Int) (a1_4 : Int) : Option (Bool) := (laws_szPassageS.f l0 1048576).bind fun t294 => (if t294 < 0 then (some true) else ((laws_toPassageS.f k l0).bind fun t295 => ((laws_toLeg.f a1_0 a1_1 a1_2 a1_3 a1_4).bind fun bt298 => ((spec_WallsAt.f k t295 bt298.1 bt298.2.1 bt298.2.2.1 bt298.2.2.2.1 bt298.2.2.2.2).bind fun bt303 => ((laws_toPassageS.f k l0).bind fun t317 => ((laws_toLeg.f a1_0 a1_1 a1_2 a1_3 a1_4).bind fun bt320 => ((impl_WallsAt.f k t317 bt320.1 bt320.2.1 bt320.2.2.1 bt320.2.2.2.1 bt320.2.2.2.2).bind fun bt325 => ((laws_eqShiftA4.f bt325.1 bt325.2.1 bt325.2.2.1 bt325.2.2.2.1 bt325.2.2.2.2.1 bt325.2.2.2.2.2.1 bt325.2.2.2.2.2.2.1 bt325.2.2.2.2.2.2.2.1 bt325.2.2.2.2.2.2.2.2.1 bt325.2.2.2.2.2.2.2.2.2.1 bt325.2.2.2.2.2.2.2.2.2.2.1 bt325.2.2.2.2.2.2.2.2.2.2.2.1 bt303.1 bt303.2.1 bt303.2.2.1 bt303.2.2.2.1 bt303.2.2.2.2.1 bt303.2.2.2.2.2.1 bt303.2.2.2.2.2.2.1 bt303.2.2.2.2.2.2.2.1 bt303.2.2.2.2.2.2.2.2.1 bt303.2.2.2.2.2.2.2.2.2.1 bt303.2.2.2.2.2.2.2.2.2.2.1 bt303.2.2.2.2.2.2.2.2.2.2.2.1).bind fun t339 => (if t339 = true then (laws_FnExactWallsAt.j0 k l0 t317 (bt325.2.2.2.2.2.2.2.2.2.2.2.2 != bt303.2.2.2.2.2.2.2.2.2.2.2.2)) else (laws_FnExactWallsAt.j0 k l0 t317 true))))))))))
theorem laws_FnExactWallsAt.mono_l : ∀ k, (∀ y0 y1 y2, LeO (laws_FnExactWallsAt.j0 k y0 y1 y2) (laws_FnExactWallsAt.j0 (k + 1) y0 y1 y2))
 | 0 => fun _ _ _ r h => by simp [laws_FnExactWallsAt.j0] at h
 | k + 1 => by
  have ih0 := laws_FnExactWallsAt.mono_l k
  ·intro y0 y1 y2
   unfold laws_FnExactWallsAt.j0
   repeat' first
   | (with_reducible exact ih0 _ _ _)
   | (with_reducible exact impl_WallsAt.mono _ _ _ _ _ _ _)
   | (with_reducible exact laws_eqPassageS.mono _ _ _)
   | (with_reducible exact laws_toPassageS.mono _ _)
   | (with_reducible exact spec_WallsAt.mono _ _ _ _ _ _ _)
   | (with_reducible exact LeO.refl _)
   | (with_reducible exact LeO.none _)
   | (with_reducible refine LeO.ite ?_ ?_)
   | (with_reducible refine LeO.bind ?_ (fun _ => ?_))
   | exact ih0 _ _ _
   | exact impl_WallsAt.mono _ _ _ _ _ _ _
   | exact laws_eqPassageS.mono _ _ _
   | exact laws_toPassageS.mono _ _
   | exact spec_WallsAt.mono _ _ _ _ _ _ _
   | exact LeO.none _
   | refine LeO.ite ?_ ?_
   | refine LeO.bind ?_ (fun _ => ?_)
theorem laws_FnExactWallsAt.mono : ∀ a0 a1 a2 a3 a4 a5 k, LeO (laws_FnExactWallsAt.f k a0 a1 a2 a3 a4 a5) (laws_FnExactWallsAt.f (k + 1) a0 a1 a2 a3 a4 a5) := by
 intro a0 a1 a2 a3 a4 a5 k
 have ih0 := laws_FnExactWallsAt.mono_l k
 unfold laws_FnExactWallsAt.f
 repeat' first
   | (with_reducible exact ih0 _ _ _)
   | (with_reducible exact impl_WallsAt.mono _ _ _ _ _ _ _)
   | (with_reducible exact laws_eqPassageS.mono _ _ _)
   | (with_reducible exact laws_toPassageS.mono _ _)
   | (with_reducible exact spec_WallsAt.mono _ _ _ _ _ _ _)
   | (with_reducible exact LeO.refl _)
   | (with_reducible exact LeO.none _)
   | (with_reducible refine LeO.ite ?_ ?_)
   | (with_reducible refine LeO.bind ?_ (fun _ => ?_))
   | exact ih0 _ _ _
   | exact impl_WallsAt.mono _ _ _ _ _ _ _
   | exact laws_eqPassageS.mono _ _ _
   | exact laws_toPassageS.mono _ _
   | exact spec_WallsAt.mono _ _ _ _ _ _ _
   | exact LeO.none _
   | refine LeO.ite ?_ ?_
   | refine LeO.bind ?_ (fun _ => ?_)
def laws_FnExactWallsAt.T5 : Bool × List (List Nat × List Nat) := (true, [([], []), ([0], [0]), ([], []), ([2, 1], [2]), ([1, 3, 3], [1, 3]), ([4], [4]), ([5], [5]), ([5], [5]), ([], []), ([8, 6, 4, 0, 1, 2, 3, 4, 5, 6, 8], [6, 8]), ([7, 9, 0, 1, 2, 3, 4, 5, 6, 7, 8, 9], [7])])
def laws_FnExactWallsAt.B5 : List Nat := [0, 1, 0, 7, 15, 31, 63, 63, 0, 383, 1023]
theorem laws_FnExactWallsAt.tab5 : rtab .any (opsOf Tryd.f3 5) = laws_FnExactWallsAt.T5 := by kernel_rfl
theorem laws_FnExactWallsAt.bits5 : waitsOk laws_FnExactWallsAt.T5.2 laws_FnExactWallsAt.B5 = true := by kernel_rfl
set_option maxHeartbeats 8000000 in
set_option maxRecDepth 100000 in
theorem laws_FnExactWallsAt.calls (k : Nat) (A0 : Option Addr) (c0 : Nat) (l0 : List (S64)) (a1_0 : Int) (a1_1 : Int) (a1_2 : Int) (a1_3 : Int) (a1_4 : Int) (r : Bool) (w : World) (hr0 : Kd.C k64 w A0 l0.length l0) (hc0 : l0.length ≤ c0) (h : laws_FnExactWallsAt.f k l0 a1_0 a1_1 a1_2 a1_3 a1_4 = some r) (hsn : TabS w) :
  Calls Tryd.prog 3 #[.slice A0 l0.length c0, .agg #[.int .i64 a1_0, .int .i64 a1_1, .int .i64 a1_2, .int .i64 a1_3, .int .i64 a1_4]] w fun e w' => e = .returned (.bool r) ∧ Below w.heap.size w w' := by
 have HSN := Aside0.mk hsn; clear hsn
 have hu24 := Tryd.underlying24
 have hu28 := Tryd.underlying28
 have HR0 := Aside0.mk hr0; have HC0 := Aside0.mk hc0; clear hr0 hc0
 have HB := Aside0.mk (Below.refl w.heap.size w)
 have H : ((laws_szPassageS.f l0 1048576).bind fun t294 => (if t294 < 0 then (some true) else ((laws_toPassageS.f k l0).bind fun t295 => ((laws_toLeg.f a1_0 a1_1 a1_2 a1_3 a1_4).bind fun bt298 => ((spec_WallsAt.f k t295 bt298.1 bt298.2.1 bt298.2.2.1 bt298.2.2.2.1 bt298.2.2.2.2).bind fun bt303 => ((laws_toPassageS.f k l0).bind fun t317 => ((laws_toLeg.f a1_0 a1_1 a1_2 a1_3 a1_4).bind fun bt320 => ((impl_WallsAt.f k t317 bt320.1 bt320.2.1 bt320.2.2.1 bt320.2.2.2.1 bt320.2.2.2.2).bind fun bt325 => ((laws_eqShiftA4.f bt325.1 bt325.2.1 bt325.2.2.1 bt325.2.2.2.1 bt325.2.2.2.2.1 bt325.2.2.2.2.2.1 bt325.2.2.2.2.2.2.1 bt325.2.2.2.2.2.2.2.1 bt325.2.2.2.2.2.2.2.2.1 bt325.2.2.2.2.2.2.2.2.2.1 bt325.2.2.2.2.2.2.2.2.2.2.1 bt325.2.2.2.2.2.2.2.2.2.2.2.1 bt303.1 bt303.2.1 bt303.2.2.1 bt303.2.2.2.1 bt303.2.2.2.2.1 bt303.2.2.2.2.2.1 bt303.2.2.2.2.2.2.1 bt303.2.2.2.2.2.2.2.1 bt303.2.2.2.2.2.2.2.2.1 bt303.2.2.2.2.2.2.2.2.2.1 bt303.2.2.2.2.2.2.2.2.2.2.1 bt303.2.2.2.2.2.2.2.2.2.2.2.1).bind fun t339 => (if t339 = true then (laws_FnExactWallsAt.j0 k l0 t317 (bt325.2.2.2.2.2.2.2.2.2.2.2.2 != bt303.2.2.2.2.2.2.2.2.2.2.2.2)) else (laws_FnExactWallsAt.j0 k l0 t317 true))))))))))) = some r := h
 clear h; replace H := Option.bind_eq_some_iff.mp H; obtain ⟨t294, A30, H⟩ := H
 try dsimp only at H
 have A3 := Aside0.mk A30; clear A30
 by_cases c4 : t294 < 0
 ·rw [if_pos c4] at H
  have c4b0 : decide (t294 < 0) = true := decide_eq_true c4
  clear c4; obtain rfl := Option.some.inj H
  go_enter Tryd.func3, Tryd.ntmps3
  go_wp2_with (first | ((with_reducible refine gate_dst (N := 3) rfl ?_); refine box_event ?hg (N := 3) ?hd (cs := #[.int .i64 a1_0, .int .i64 a1_1, .int .i64 a1_2, .int .i64 a1_3, .int .i64 a1_4]) (t := 24) ?hr ?_; (case hd => rfl); (case hg => rfl); (case hr => exact (qA11_22)); intro gb293 hg w5 hbox hb; have n0_ := Aside0.mk (below_step (qA11_14) hb); have n1_ := Aside0.mk (hbox); have n2_ := Aside0.mk ((by rw [hg]; exact (below_size (qA11_14)) : w.heap.size ≤ gb293)); have n3_ := Aside0.mk ((by rw [hg]; exact (below_size (qA11_14)) : w.heap.size ≤ gb293)); clear HB; have HB := n0_; have BK293 := n1_; have GW293 := n2_; have GE293 := n3_; clear n0_ n1_ n2_ n3_; clear hb hbox hg) | ((with_reducible refine gate_callee (f := 5) rfl ?_); refine goesL_ (some 13) rfl rfl Tryd.func5 (by kernel_rfl) rfl #[.slice A0 l0.length c0, .int .i64 1048576] rfl (qA11_5) ?_; (with_reducible refine (laws_szPassageS.calls _ _ l0 1048576 t294 _ ?side1 ?side2 A3.out).mono ?_); (case side1 => exact (qA11_13)); (case side2 => exact HC0.out); rintro e w' ⟨rfl, ⟨nd, rfl⟩⟩; refine ⟨_, rfl, ?_⟩))
  go_ret
  exact ⟨(qA11_20), (qA11_3)⟩
 ·rw [if_neg c4] at H
  have c4b0 : decide (t294 < 0) = false := decide_eq_false c4
  clear c4; replace H := Option.bind_eq_some_iff.mp H; obtain ⟨t295, A60, H⟩ := H
  try dsimp only at H
  have A6 := Aside0.mk A60; clear A60; replace H := Option.bind_eq_some_iff.mp H; obtain ⟨⟨t298, t299, t300, t301, t302⟩, A70, H⟩ := H
  try dsimp only at H
  have A7 := Aside0.mk A70; clear A70; replace H := Option.bind_eq_some_iff.mp H; obtain ⟨⟨t303, t304, t305, t306, t307, t308, t309, t310, t311, t312, t313, t314, t315⟩, A80, H⟩ := H
  try dsimp only at H
  have A8 := Aside0.mk A80; clear A80; replace H := Option.bind_eq_some_iff.mp H; obtain ⟨t317, A90, H⟩ := H
  try dsimp only at H
  have A9 := Aside0.mk A90; clear A90; replace H := Option.bind_eq_some_iff.mp H; obtain ⟨⟨t320, t321, t322, t323, t324⟩, A100, H⟩ := H
  try dsimp only at H
  have A10 := Aside0.mk A100; clear A100; replace H := Option.bind_eq_some_iff.mp H; obtain ⟨⟨t325, t326, t327, t328, t329, t330, t331, t332, t333, t334, t335, t336, t337⟩, A110, H⟩ := H
  try dsimp only at H
  have A11 := Aside0.mk A110; clear A110; have HC12 := Aside0.mk H; clear H
  go_enter Tryd.func3, Tryd.ntmps3
  try go_wp2_with (first | ((with_reducible refine gate_dst (N := 3) rfl ?_); refine box_event ?hg (N := 3) ?hd (cs := #[.int .i64 a1_0, .int .i64 a1_1, .int .i64 a1_2, .int .i64 a1_3, .int .i64 a1_4]) (t := 24) ?hr ?_; (case hd => rfl); (case hg => rfl); (case hr => exact (qA11_22)); intro gb293 hg w13 hbox hb; have n0_ := Aside0.mk (below_step (qA11_14) hb); have n1_ := Aside0.mk (hbox); have n2_ := Aside0.mk ((by rw [hg]; exact (below_size (qA11_14)) : w.heap.size ≤ gb293)); have n3_ := Aside0.mk ((by rw [hg]; exact (below_size (qA11_14)) : w.heap.size ≤ gb293)); clear HB; have HB := n0_; have BK293 := n1_; have GW293 := n2_; have GE293 := n3_; clear n0_ n1_ n2_ n3_; clear hb hbox hg) | ((with_reducible refine gate_callee (f := 5) rfl ?_); refine goesL_ (some 13) rfl rfl Tryd.func5 (by kernel_rfl) rfl #[.slice A0 l0.length c0, .int .i64 1048576] rfl (qA11_5) ?_; (with_reducible refine (laws_szPassageS.calls _ _ l0 1048576 t294 _ ?side1 ?side2 A3.out).mono ?_); (case side1 => exact (qA11_13)); (case side2 => exact HC0.out); rintro e w' ⟨rfl, ⟨nd, rfl⟩⟩; refine ⟨_, rfl, ?_⟩; (try (rw [drewN_self w13]; generalize hq_ : World.drewN w13 _ = w13; have n0_ : Aside0 (w13.heap[gb293]? = some (.cells #[.int .i64 a1_0, .int .i64 a1_1, .int .i64 a1_2, .int .i64 a1_3, .int .i64 a1_4] 24 (0, 0))) := ⟨by rw [← hq_]; exact (qA11_0)⟩; have n1_ : Aside0 (Below w.heap.size w w13) := ⟨by rw [← hq_]; exact (qA11_3)⟩; clear BK293 HB hq_; have BK293 := n0_; have HB := n1_; clear n0_ n1_))))
  have n0_ := Aside0.mk (blk_drew BK293.out)
  have n1_ := Aside0.mk (below_drew1 HB.out)
  clear BK293; clear HB
  have BK293 := n0_
  have HB := n1_
  clear n0_ n1_
  refine start_ (n := 11) (S := fun w' => w'.cell? ⟨gb293, 0, none⟩ = some (.int .i64 a1_0) ∧ w'.cell? ⟨gb293, 1, none⟩ = some (.int .i64 a1_1) ∧ w'.cell? ⟨gb293, 2, none⟩ = some (.int .i64 a1_2) ∧ w'.cell? ⟨gb293, 3, none⟩ = some (.int .i64 a1_3) ∧ w'.cell? ⟨gb293, 4, none⟩ = some (.int .i64 a1_4)) (ds := []) #[false, false, false, false, false, false, false, false, false, false, false] (by kernel_rfl) rfl rfl ⟨(blk_cell BK293.out 0).trans rfl, (blk_cell BK293.out 1).trans rfl, (blk_cell BK293.out 2).trans rfl, (blk_cell BK293.out 3).trans rfl, (blk_cell BK293.out 4).trans rfl⟩ (fun hHeld => ?_); refine with_tabW laws_FnExactWallsAt.tab5 laws_FnExactWallsAt.bits5 (fun HT_ HW_ => ?_)
  generalize w13.drew = w14 at BK293 HB hHeld ⊢
  refine pure_ (i := 0) (N := some 17) (v := ?_) (a' := ?_) #[true, false, false, false, false, false, false, false, false, false, false] rfl rfl (qA11_18) (fun _ _ _ h => h) (Or.inl ⟨by rfl, ?_⟩) ?_ ?_
  rotate_left; exact qA11_c3; rotate_left; exact qA11_c0
  refine take_ (i := 2) (N := some 19) (v := ?_) (a' := ?_) #[true, false, true, false, false, false, false, false, false, false, false] rfl rfl (take_ofW HT_.out HW_.out (by kernel_rfl)) (fun _ _ _ h => h) (Or.inl ⟨by rfl, ?_⟩) hHeld ?_ ?_
  rotate_left
  ·rintro w' ⟨s0, s1, s2, s3, s4⟩
   go_simp
   with_reducible rfl
  rotate_left
  ·exact qA11_c0
  refine join_ (σ := Value × Nat) 2 qA11_b0 (fun s_ => [(18, s_.1), (20, .agg #[.int .i64 t298, .int .i64 t299, .int .i64 t300, .int .i64 t301, .int .i64 t302]), (21, .tuple #[.agg #[.int .i64 t303, .int .i64 t304, .int .i64 t305, .int .i64 t306, .int .i64 t307, .int .i64 t308, .int .i64 t309, .int .i64 t310, .int .i64 t311, .int .i64 t312, .int .i64 t313, .int .i64 t314], .bool t315]), (6, .pointer (some ⟨s_.2, 0, none⟩)), (16, .tuple #[.agg #[.int .i64 t303, .int .i64 t304, .int .i64 t305, .int .i64 t306, .int .i64 t307, .int .i64 t308, .int .i64 t309, .int .i64 t310, .int .i64 t311, .int .i64 t312, .int .i64 t313, .int .i64 t314], .bool t315]), (22, .agg #[.int .i64 t303, .int .i64 t304, .int .i64 t305, .int .i64 t306, .int .i64 t307, .int .i64 t308, .int .i64 t309, .int .i64 t310, .int .i64 t311, .int .i64 t312, .int .i64 t313, .int .i64 t314]), (23, .bool t315)]) (fun s_ w' => (w'.cell? ⟨gb293, 0, none⟩ = some (.int .i64 a1_0) ∧ w'.cell? ⟨gb293, 1, none⟩ = some (.int .i64 a1_1) ∧ w'.cell? ⟨gb293, 2, none⟩ = some (.int .i64 a1_2) ∧ w'.cell? ⟨gb293, 3, none⟩ = some (.int .i64 a1_3) ∧ w'.cell? ⟨gb293, 4, none⟩ = some (.int .i64 a1_4)) ∧ (Kd.R k43 43 w' w.heap.size (fun _ => True) s_.1 t295) ∧ (w'.heap[gb293]? = some (.cells #[.int .i64 a1_0, .int .i64 a1_1, .int .i64 a1_2, .int .i64 a1_3, .int .i64 a1_4] 24 (0, 0))) ∧ (w'.heap[s_.2]? = some (.cells #[.int .i64 0, .int .i64 0, .int .i64 0, .int .i64 0, .int .i64 0, .int .i64 0, .int .i64 0, .int .i64 0, .int .i64 0, .int .i64 0, .int .i64 0, .int .i64 0] 28 (0, 0))) ∧ (w.heap.size ≤ s_.2) ∧ (w.heap.size ≤ s_.2) ∧ (gb293 ≠ s_.2) ∧ (s_.2 ≠ gb293) ∧ (Below w.heap.size w w')) ?_ ?_
  rotate_left
  ·intro hCont
   refine two_ (i := 1) (j := 8) (Ni := some 18) (Nj := some 6) #[true, true, true, false, false, false, false, false, false, false, false] #[true, false, true, false, false, false, false, false, true, false, false] rfl rfl rfl rfl (two_of HT_.out (by kernel_rfl)) (by decide) (by decide) (fun K hK => ?_) (fun K hK => ?_)
   ·skip
    refine goes_ Tryd.func7 (by kernel_rfl) rfl #[.slice A0 l0.length c0] (by rfl) rfl rfl (qA11_5) ?_
    with_reducible refine (laws_toPassageS.calls k _ _ l0 t295 _ ?side1 ?side2 A6.out).mono ?_
    (case side1 => exact (qA11_13))
    (case side2 => exact HC0.out)
    rintro e w15 ⟨v296, rfl, ho0, hb⟩
    refine ⟨_, rfl, ?_⟩
    have n0_ := Aside0.mk (Kd.R_lower ho0 (below_size (qA11_3)))
    have n1_ := Aside0.mk (blk_below (g := gb293) (o := .cells #[.int .i64 a1_0, .int .i64 a1_1, .int .i64 a1_2, .int .i64 a1_3, .int .i64 a1_4] 24 (0, 0)) (qA11_0) hb)
    have n2_ := Aside0.mk (below_step (qA11_3) hb)
    clear BK293; clear HB
    have HO297 := n0_
    have BK293 := n1_
    have HB := n2_
    clear n0_ n1_ n2_
    (try clear hb)
    (try clear hb2)
    (try clear hk)
    (try clear hi)
    (try clear ho0)
    refine hK.out _ _ ⟨(blk_cell BK293.out 0).trans rfl, (blk_cell BK293.out 1).trans rfl, (blk_cell BK293.out 2).trans rfl, (blk_cell BK293.out 3).trans rfl, (blk_cell BK293.out 4).trans rfl⟩ (fun hHeld => ?_)
    clear hK K
    refine norm_ (a' := ?_) ?_ ?_
    rotate_left
    ·show Act.put _ (some 18) _ = _
     simp only [Act.put, List.setIfInBounds_toArray, List.set_cons_zero, List.set_cons_succ, i64_w, i32_w]
     rfl
    refine two_ (i := 3) (j := 8) (Ni := some 20) (Nj := some 6) #[true, true, true, true, false, false, false, false, false, false, false] qA11_b1 rfl rfl rfl rfl (two_of HT_.out (by kernel_rfl)) (by decide) (by decide) (fun K hK => ?_) (fun K hK => ?_)
    ·skip
     refine goes_ Tryd.func8 (by kernel_rfl) rfl #[.agg #[.int .i64 a1_0, .int .i64 a1_1, .int .i64 a1_2, .int .i64 a1_3, .int .i64 a1_4]] (by rfl) rfl rfl (qA11_5) ?_
     with_reducible refine (laws_toLeg.calls a1_0 a1_1 a1_2 a1_3 a1_4 t298 t299 t300 t301 t302 _ A7.out).mono ?_
     rintro e w16 ⟨rfl, hb⟩
     refine ⟨_, rfl, ?_⟩
     have n0_ := Aside0.mk (Kd.R_below (qA11_9) hb)
     have n1_ := Aside0.mk (blk_below (g := gb293) (o := .cells #[.int .i64 a1_0, .int .i64 a1_1, .int .i64 a1_2, .int .i64 a1_3, .int .i64 a1_4] 24 (0, 0)) (qA11_0) hb)
     have n2_ := Aside0.mk (below_step (qA11_3) hb)
     clear HO297; clear BK293; clear HB
     have HO297 := n0_
     have BK293 := n1_
     have HB := n2_
     clear n0_ n1_ n2_
     (try clear hb)
     (try clear hb2)
     (try clear hk)
     (try clear hi)
     obtain ⟨Ao17, co17, eo17⟩ := Kd.R_slice HO297.out
     (first | subst eo17 | (injection eo17 with f1_ f2_ f3_; have f4_ := f1_.symm; have f5_ := f3_.symm; clear f1_ f2_ f3_; subst f4_; subst f5_))
     refine hK.out _ _ ⟨(blk_cell BK293.out 0).trans rfl, (blk_cell BK293.out 1).trans rfl, (blk_cell BK293.out 2).trans rfl, (blk_cell BK293.out 3).trans rfl, (blk_cell BK293.out 4).trans rfl⟩ (fun hHeld => ?_)
     clear hK K
     refine norm_ (a' := ?_) ?_ ?_
     rotate_left
     ·exact qA11_c4
     refine two_ (i := 4) (j := 8) (Ni := some 21) (Nj := some 6) #[true, true, true, true, true, false, false, false, false, false, false] qA11_b2 rfl rfl rfl rfl (two_of HT_.out (by kernel_rfl)) (by decide) (by decide) (fun K hK => ?_) (fun K hK => ?_)
     ·skip
      refine goes_ Tryd.func6 (by kernel_rfl) rfl #[.slice Ao17 t295.length co17, .agg #[.int .i64 t298, .int .i64 t299, .int .i64 t300, .int .i64 t301, .int .i64 t302]] (by rfl) rfl rfl (qA11_5) ?_
      with_reducible refine (spec_WallsAt.calls k _ _ t295 t298 t299 t300 t301 t302 t303 t304 t305 t306 t307 t308 t309 t310 t311 t312 t313 t314 t315 _ ?side1 ?side2 A8.out).mono ?_
      (case side1 => exact (qA11_16))
      (case side2 => exact (by exact (Kd.R_reads' HO297.out).2.1))
      rintro e w18 ⟨rfl, hb⟩
      refine ⟨_, rfl, ?_⟩
      have n0_ := Aside0.mk (Kd.R_below (qA11_9) hb)
      have n1_ := Aside0.mk (blk_below (g := gb293) (o := .cells #[.int .i64 a1_0, .int .i64 a1_1, .int .i64 a1_2, .int .i64 a1_3, .int .i64 a1_4] 24 (0, 0)) (qA11_0) hb)
      have n2_ := Aside0.mk (below_step (qA11_3) hb)
      clear HO297; clear BK293; clear HB
      have HO297 := n0_
      have BK293 := n1_
      have HB := n2_
      clear n0_ n1_ n2_
      (try clear hb)
      (try clear hb2)
      (try clear hk)
      (try clear hi)
      refine hK.out _ _ ⟨(blk_cell BK293.out 0).trans rfl, (blk_cell BK293.out 1).trans rfl, (blk_cell BK293.out 2).trans rfl, (blk_cell BK293.out 3).trans rfl, (blk_cell BK293.out 4).trans rfl⟩ (fun hHeld => ?_)
      clear hK K
      refine norm_ (a' := ?_) ?_ ?_
      rotate_left
      ·exact qA11_c1
      refine pure_ (i := 5) (N := some 16) (v := ?_) (a' := ?_) #[true, true, true, true, true, true, false, false, false, false, false] rfl rfl (qA11_18) (fun _ _ _ h => h) (Or.inl ⟨by rfl, ?_⟩) ?_ ?_
      rotate_left; exact qA11_c3; rotate_left; exact qA11_c0
      refine pure_ (i := 6) (N := some 22) (v := ?_) (a' := ?_) #[true, true, true, true, true, true, true, false, false, false, false] rfl rfl (qA11_18) (fun _ _ _ h => h) (Or.inl ⟨by rfl, ?_⟩) ?_ ?_
      rotate_left; exact qA11_c3; rotate_left; exact qA11_c0
      refine pure_ (i := 7) (N := some 23) (v := ?_) (a' := ?_) #[true, true, true, true, true, true, true, true, false, false, false] rfl rfl (qA11_18) (fun _ _ _ h => h) (Or.inl ⟨by rfl, ?_⟩) ?_ ?_
      rotate_left; exact qA11_c3; rotate_left; exact qA11_c0
      refine one_ (i := 8) (N := some 6) qA11_b0 rfl rfl (qA11_21) (by decide) (fun K hK => ?_)
      refine box_step ?hg (N := 6) ?hd (cs := #[.int .i64 0, .int .i64 0, .int .i64 0, .int .i64 0, .int .i64 0, .int .i64 0, .int .i64 0, .int .i64 0, .int .i64 0, .int .i64 0, .int .i64 0, .int .i64 0]) (t := 28) ?hr ?_; (case hd => rfl); (case hg => rfl); (case hr => exact (qA11_22))
      intro gb316 hg w19 hbox hb
      have n0_ := Aside0.mk (Kd.R_below (qA11_9) hb)
      have n1_ := Aside0.mk (blk_below (g := gb293) (o := .cells #[.int .i64 a1_0, .int .i64 a1_1, .int .i64 a1_2, .int .i64 a1_3, .int .i64 a1_4] 24 (0, 0)) (qA11_0) hb)
      have n2_ := Aside0.mk (below_step (qA11_3) hb)
      have n3_ := Aside0.mk (hbox)
      have n4_ := Aside0.mk ((by rw [hg]; exact (below_size (qA11_3)) : w.heap.size ≤ gb316))
      have n5_ := Aside0.mk ((by rw [hg]; exact (below_size (qA11_3)) : w.heap.size ≤ gb316))
      have n6_ := Aside0.mk ((by rw [hg]; exact Nat.ne_of_lt (blk_lt (g := gb293) (o := .cells #[.int .i64 a1_0, .int .i64 a1_1, .int .i64 a1_2, .int .i64 a1_3, .int .i64 a1_4] 24 (0, 0)) (qA11_0)) : gb293 ≠ gb316))
      have n7_ := Aside0.mk ((by rw [hg]; exact Nat.ne_of_gt (blk_lt (g := gb293) (o := .cells #[.int .i64 a1_0, .int .i64 a1_1, .int .i64 a1_2, .int .i64 a1_3, .int .i64 a1_4] 24 (0, 0)) (qA11_0)) : gb316 ≠ gb293))
      clear HO297; clear BK293; clear HB
      have HO297 := n0_
      have BK293 := n1_
      have HB := n2_
      have BK316 := n3_
      have GW316 := n4_
      have GE316 := n5_
      have NB293_316 := n6_
      have NB316_293 := n7_
      clear n0_ n1_ n2_ n3_ n4_ n5_ n6_ n7_; clear hb hbox hg
      refine hK.out _ _ ⟨(blk_cell BK293.out 0).trans rfl, (blk_cell BK293.out 1).trans rfl, (blk_cell BK293.out 2).trans rfl, (blk_cell BK293.out 3).trans rfl, (blk_cell BK293.out 4).trans rfl⟩ (fun hHeld => ?_)
      clear hK K
      refine norm_ (a' := ?_) ?_ ?_
      rotate_left
      ·exact qA11_c2
      exact norm_ (qA11_19) (hCont (.slice Ao17 t295.length co17, gb316) _ ⟨hHeld, (qA11_9), (qA11_0), (qA11_6), GW316.out, GE316.out, NB293_316.out, NB316_293.out, (qA11_2)⟩)
     ·skip
      refine box_step ?hg (N := 6) ?hd (cs := #[.int .i64 0, .int .i64 0, .int .i64 0, .int .i64 0, .int .i64 0, .int .i64 0, .int .i64 0, .int .i64 0, .int .i64 0, .int .i64 0, .int .i64 0, .int .i64 0]) (t := 28) ?hr ?_; (case hd => rfl); (case hg => rfl); (case hr => exact (qA11_22))
      intro gb316 hg w17 hbox hb
      have n0_ := Aside0.mk (Kd.R_below (qA11_9) hb)
      have n1_ := Aside0.mk (blk_below (g := gb293) (o := .cells #[.int .i64 a1_0, .int .i64 a1_1, .int .i64 a1_2, .int .i64 a1_3, .int .i64 a1_4] 24 (0, 0)) (qA11_0) hb)
      have n2_ := Aside0.mk (below_step (qA11_3) hb)
      have n3_ := Aside0.mk (hbox)
      have n4_ := Aside0.mk ((by rw [hg]; exact (below_size (qA11_3)) : w.heap.size ≤ gb316))
      have n5_ := Aside0.mk ((by rw [hg]; exact (below_size (qA11_3)) : w.heap.size ≤ gb316))
      have n6_ := Aside0.mk ((by rw [hg]; exact Nat.ne_of_lt (blk_lt (g := gb293) (o := .cells #[.int .i64 a1_0, .int .i64 a1_1, .int .i64 a1_2, .int .i64 a1_3, .int .i64 a1_4] 24 (0, 0)) (qA11_0)) : gb293 ≠ gb316))
      have n7_ := Aside0.mk ((by rw [hg]; exact Nat.ne_of_gt (blk_lt (g := gb293) (o := .cells #[.int .i64 a1_0, .int .i64 a1_1, .int .i64 a1_2, .int .i64 a1_3, .int .i64 a1_4] 24 (0, 0)) (qA11_0)) : gb316 ≠ gb293))
      clear HO297; clear BK293; clear HB
      have HO297 := n0_
      have BK293 := n1_
      have HB := n2_
      have BK316 := n3_
      have GW316 := n4_
      have GE316 := n5_
      have NB293_316 := n6_
      have NB316_293 := n7_
      clear n0_ n1_ n2_ n3_ n4_ n5_ n6_ n7_; clear hb hbox hg
      obtain ⟨Ao18, co18, eo18⟩ := Kd.R_slice HO297.out
      (first | subst eo18 | (injection eo18 with f1_ f2_ f3_; have f4_ := f1_.symm; have f5_ := f3_.symm; clear f1_ f2_ f3_; subst f4_; subst f5_))
      refine hK.out _ _ ⟨(blk_cell BK293.out 0).trans rfl, (blk_cell BK293.out 1).trans rfl, (blk_cell BK293.out 2).trans rfl, (blk_cell BK293.out 3).trans rfl, (blk_cell BK293.out 4).trans rfl⟩ (fun hHeld => ?_)
      clear hK K
      refine norm_ (a' := ?_) ?_ ?_
      rotate_left
      ·exact qA11_c2
      refine one_ (i := 4) (N := some 21) qA11_b3 rfl rfl (qA11_21) (by decide) (fun K hK => ?_)
      refine goes_ Tryd.func6 (by kernel_rfl) rfl #[.slice Ao18 t295.length co18, .agg #[.int .i64 t298, .int .i64 t299, .int .i64 t300, .int .i64 t301, .int .i64 t302]] (by rfl) rfl rfl (qA11_5) ?_
      with_reducible refine (spec_WallsAt.calls k _ _ t295 t298 t299 t300 t301 t302 t303 t304 t305 t306 t307 t308 t309 t310 t311 t312 t313 t314 t315 _ ?side1 ?side2 A8.out).mono ?_
      (case side1 => exact (qA11_16))
      (case side2 => exact (by exact (Kd.R_reads' HO297.out).2.1))
      rintro e w19 ⟨rfl, hb⟩
      refine ⟨_, rfl, ?_⟩
      have n0_ := Aside0.mk (Kd.R_below (qA11_9) hb)
      have n1_ := Aside0.mk (blk_below (g := gb293) (o := .cells #[.int .i64 a1_0, .int .i64 a1_1, .int .i64 a1_2, .int .i64 a1_3, .int .i64 a1_4] 24 (0, 0)) (qA11_0) hb)
      have n2_ := Aside0.mk (blk_below (g := gb316) (o := .cells #[.int .i64 0, .int .i64 0, .int .i64 0, .int .i64 0, .int .i64 0, .int .i64 0, .int .i64 0, .int .i64 0, .int .i64 0, .int .i64 0, .int .i64 0, .int .i64 0] 28 (0, 0)) (qA11_6) hb)
      have n3_ := Aside0.mk (below_step (qA11_2) hb)
      clear HO297; clear BK293; clear BK316; clear HB
      have HO297 := n0_
      have BK293 := n1_
      have BK316 := n2_
      have HB := n3_
      clear n0_ n1_ n2_ n3_
      (try clear hb)
      (try clear hb2)
      (try clear hk)
      (try clear hi)
      refine hK.out _ _ ⟨(blk_cell BK293.out 0).trans rfl, (blk_cell BK293.out 1).trans rfl, (blk_cell BK293.out 2).trans rfl, (blk_cell BK293.out 3).trans rfl, (blk_cell BK293.out 4).trans rfl⟩ (fun hHeld => ?_)
      clear hK K
      refine norm_ (a' := ?_) ?_ ?_
      rotate_left
      ·exact qA11_c1
      refine pure_ (i := 5) (N := some 16) (v := ?_) (a' := ?_) qA11_b4 rfl rfl (qA11_18) (fun _ _ _ h => h) (Or.inl ⟨by rfl, ?_⟩) ?_ ?_
      rotate_left; exact qA11_c3; rotate_left; exact qA11_c0
      refine pure_ (i := 6) (N := some 22) (v := ?_) (a' := ?_) qA11_b5 rfl rfl (qA11_18) (fun _ _ _ h => h) (Or.inl ⟨by rfl, ?_⟩) ?_ ?_
      rotate_left; exact qA11_c3; rotate_left; exact qA11_c0
      refine pure_ (i := 7) (N := some 23) (v := ?_) (a' := ?_) qA11_b0 rfl rfl (qA11_18) (fun _ _ _ h => h) (Or.inl ⟨by rfl, ?_⟩) ?_ ?_
      rotate_left; exact qA11_c3; rotate_left; exact qA11_c0
      exact norm_ (qA11_19) (hCont (.slice Ao18 t295.length co18, gb316) _ ⟨hHeld, (qA11_9), (qA11_0), (qA11_6), GW316.out, GE316.out, NB293_316.out, NB316_293.out, (qA11_2)⟩)
    ·skip
     refine box_step ?hg (N := 6) ?hd (cs := #[.int .i64 0, .int .i64 0, .int .i64 0, .int .i64 0, .int .i64 0, .int .i64 0, .int .i64 0, .int .i64 0, .int .i64 0, .int .i64 0, .int .i64 0, .int .i64 0]) (t := 28) ?hr ?_; (case hd => rfl); (case hg => rfl); (case hr => exact (qA11_22))
     intro gb316 hg w16 hbox hb
     have n0_ := Aside0.mk (Kd.R_below (qA11_9) hb)
     have n1_ := Aside0.mk (blk_below (g := gb293) (o := .cells #[.int .i64 a1_0, .int .i64 a1_1, .int .i64 a1_2, .int .i64 a1_3, .int .i64 a1_4] 24 (0, 0)) (qA11_0) hb)
     have n2_ := Aside0.mk (below_step (qA11_3) hb)
     have n3_ := Aside0.mk (hbox)
     have n4_ := Aside0.mk ((by rw [hg]; exact (below_size (qA11_3)) : w.heap.size ≤ gb316))
     have n5_ := Aside0.mk ((by rw [hg]; exact (below_size (qA11_3)) : w.heap.size ≤ gb316))
     have n6_ := Aside0.mk ((by rw [hg]; exact Nat.ne_of_lt (blk_lt (g := gb293) (o := .cells #[.int .i64 a1_0, .int .i64 a1_1, .int .i64 a1_2, .int .i64 a1_3, .int .i64 a1_4] 24 (0, 0)) (qA11_0)) : gb293 ≠ gb316))
     have n7_ := Aside0.mk ((by rw [hg]; exact Nat.ne_of_gt (blk_lt (g := gb293) (o := .cells #[.int .i64 a1_0, .int .i64 a1_1, .int .i64 a1_2, .int .i64 a1_3, .int .i64 a1_4] 24 (0, 0)) (qA11_0)) : gb316 ≠ gb293))
     clear HO297; clear BK293; clear HB
     have HO297 := n0_
     have BK293 := n1_
     have HB := n2_
     have BK316 := n3_
     have GW316 := n4_
     have GE316 := n5_
     have NB293_316 := n6_
     have NB316_293 := n7_
     clear n0_ n1_ n2_ n3_ n4_ n5_ n6_ n7_; clear hb hbox hg
     refine hK.out _ _ ⟨(blk_cell BK293.out 0).trans rfl, (blk_cell BK293.out 1).trans rfl, (blk_cell BK293.out 2).trans rfl, (blk_cell BK293.out 3).trans rfl, (blk_cell BK293.out 4).trans rfl⟩ (fun hHeld => ?_)
     clear hK K
     refine norm_ (a' := ?_) ?_ ?_
     rotate_left
     ·exact qA11_c2
     refine one_ (i := 3) (N := some 20) qA11_b2 rfl rfl (qA11_21) (by decide) (fun K hK => ?_)
     refine goes_ Tryd.func8 (by kernel_rfl) rfl #[.agg #[.int .i64 a1_0, .int .i64 a1_1, .int .i64 a1_2, .int .i64 a1_3, .int .i64 a1_4]] (by rfl) rfl rfl (qA11_5) ?_
     with_reducible refine (laws_toLeg.calls a1_0 a1_1 a1_2 a1_3 a1_4 t298 t299 t300 t301 t302 _ A7.out).mono ?_
     rintro e w17 ⟨rfl, hb⟩
     refine ⟨_, rfl, ?_⟩
     have n0_ := Aside0.mk (Kd.R_below (qA11_9) hb)
     have n1_ := Aside0.mk (blk_below (g := gb293) (o := .cells #[.int .i64 a1_0, .int .i64 a1_1, .int .i64 a1_2, .int .i64 a1_3, .int .i64 a1_4] 24 (0, 0)) (qA11_0) hb)
     have n2_ := Aside0.mk (blk_below (g := gb316) (o := .cells #[.int .i64 0, .int .i64 0, .int .i64 0, .int .i64 0, .int .i64 0, .int .i64 0, .int .i64 0, .int .i64 0, .int .i64 0, .int .i64 0, .int .i64 0, .int .i64 0] 28 (0, 0)) (qA11_6) hb)
     have n3_ := Aside0.mk (below_step (qA11_2) hb)
     clear HO297; clear BK293; clear BK316; clear HB
     have HO297 := n0_
     have BK293 := n1_
     have BK316 := n2_
     have HB := n3_
     clear n0_ n1_ n2_ n3_
     (try clear hb)
     (try clear hb2)
     (try clear hk)
     (try clear hi)
     obtain ⟨Ao18, co18, eo18⟩ := Kd.R_slice HO297.out
     (first | subst eo18 | (injection eo18 with f1_ f2_ f3_; have f4_ := f1_.symm; have f5_ := f3_.symm; clear f1_ f2_ f3_; subst f4_; subst f5_))
     refine hK.out _ _ ⟨(blk_cell BK293.out 0).trans rfl, (blk_cell BK293.out 1).trans rfl, (blk_cell BK293.out 2).trans rfl, (blk_cell BK293.out 3).trans rfl, (blk_cell BK293.out 4).trans rfl⟩ (fun hHeld => ?_)
     clear hK K
     refine norm_ (a' := ?_) ?_ ?_
     rotate_left
     ·exact qA11_c4
     refine one_ (i := 4) (N := some 21) qA11_b3 rfl rfl (qA11_21) (by decide) (fun K hK => ?_)
     refine goes_ Tryd.func6 (by kernel_rfl) rfl #[.slice Ao18 t295.length co18, .agg #[.int .i64 t298, .int .i64 t299, .int .i64 t300, .int .i64 t301, .int .i64 t302]] (by rfl) rfl rfl (qA11_5) ?_
     with_reducible refine (spec_WallsAt.calls k _ _ t295 t298 t299 t300 t301 t302 t303 t304 t305 t306 t307 t308 t309 t310 t311 t312 t313 t314 t315 _ ?side1 ?side2 A8.out).mono ?_
     (case side1 => exact (qA11_16))
     (case side2 => exact (by exact (Kd.R_reads' HO297.out).2.1))
     rintro e w19 ⟨rfl, hb⟩
     refine ⟨_, rfl, ?_⟩
     have n0_ := Aside0.mk (Kd.R_below (qA11_9) hb)
     have n1_ := Aside0.mk (blk_below (g := gb293) (o := .cells #[.int .i64 a1_0, .int .i64 a1_1, .int .i64 a1_2, .int .i64 a1_3, .int .i64 a1_4] 24 (0, 0)) (qA11_0) hb)
     have n2_ := Aside0.mk (blk_below (g := gb316) (o := .cells #[.int .i64 0, .int .i64 0, .int .i64 0, .int .i64 0, .int .i64 0, .int .i64 0, .int .i64 0, .int .i64 0, .int .i64 0, .int .i64 0, .int .i64 0, .int .i64 0] 28 (0, 0)) (qA11_6) hb)
     have n3_ := Aside0.mk (below_step (qA11_2) hb)
     clear HO297; clear BK293; clear BK316; clear HB
     have HO297 := n0_
     have BK293 := n1_
     have BK316 := n2_
     have HB := n3_
     clear n0_ n1_ n2_ n3_
     (try clear hb)
     (try clear hb2)
     (try clear hk)
     (try clear hi)
     refine hK.out _ _ ⟨(blk_cell BK293.out 0).trans rfl, (blk_cell BK293.out 1).trans rfl, (blk_cell BK293.out 2).trans rfl, (blk_cell BK293.out 3).trans rfl, (blk_cell BK293.out 4).trans rfl⟩ (fun hHeld => ?_)
     clear hK K
     refine norm_ (a' := ?_) ?_ ?_
     rotate_left
     ·exact qA11_c1
     refine pure_ (i := 5) (N := some 16) (v := ?_) (a' := ?_) qA11_b4 rfl rfl (qA11_18) (fun _ _ _ h => h) (Or.inl ⟨by rfl, ?_⟩) ?_ ?_
     rotate_left; exact qA11_c3; rotate_left; exact qA11_c0
     refine pure_ (i := 6) (N := some 22) (v := ?_) (a' := ?_) qA11_b5 rfl rfl (qA11_18) (fun _ _ _ h => h) (Or.inl ⟨by rfl, ?_⟩) ?_ ?_
     rotate_left; exact qA11_c3; rotate_left; exact qA11_c0
     refine pure_ (i := 7) (N := some 23) (v := ?_) (a' := ?_) qA11_b0 rfl rfl (qA11_18) (fun _ _ _ h => h) (Or.inl ⟨by rfl, ?_⟩) ?_ ?_
     rotate_left; exact qA11_c3; rotate_left; exact qA11_c0
     exact norm_ (qA11_19) (hCont (.slice Ao18 t295.length co18, gb316) _ ⟨hHeld, (qA11_9), (qA11_0), (qA11_6), GW316.out, GE316.out, NB293_316.out, NB316_293.out, (qA11_2)⟩)
   ·skip
    refine box_step ?hg (N := 6) ?hd (cs := #[.int .i64 0, .int .i64 0, .int .i64 0, .int .i64 0, .int .i64 0, .int .i64 0, .int .i64 0, .int .i64 0, .int .i64 0, .int .i64 0, .int .i64 0, .int .i64 0]) (t := 28) ?hr ?_; (case hd => rfl); (case hg => rfl); (case hr => exact (qA11_22))
    intro gb316 hg w15 hbox hb
    have n0_ := Aside0.mk (blk_below (g := gb293) (o := .cells #[.int .i64 a1_0, .int .i64 a1_1, .int .i64 a1_2, .int .i64 a1_3, .int .i64 a1_4] 24 (0, 0)) (qA11_0) hb)
    have n1_ := Aside0.mk (below_step (qA11_3) hb)
    have n2_ := Aside0.mk (hbox)
    have n3_ := Aside0.mk ((by rw [hg]; exact (below_size (qA11_3)) : w.heap.size ≤ gb316))
    have n4_ := Aside0.mk ((by rw [hg]; exact (below_size (qA11_3)) : w.heap.size ≤ gb316))
    have n5_ := Aside0.mk ((by rw [hg]; exact Nat.ne_of_lt (blk_lt (g := gb293) (o := .cells #[.int .i64 a1_0, .int .i64 a1_1, .int .i64 a1_2, .int .i64 a1_3, .int .i64 a1_4] 24 (0, 0)) (qA11_0)) : gb293 ≠ gb316))
    have n6_ := Aside0.mk ((by rw [hg]; exact Nat.ne_of_gt (blk_lt (g := gb293) (o := .cells #[.int .i64 a1_0, .int .i64 a1_1, .int .i64 a1_2, .int .i64 a1_3, .int .i64 a1_4] 24 (0, 0)) (qA11_0)) : gb316 ≠ gb293))
    clear BK293; clear HB
    have BK293 := n0_
    have HB := n1_
    have BK316 := n2_
    have GW316 := n3_
    have GE316 := n4_
    have NB293_316 := n5_
    have NB316_293 := n6_
    clear n0_ n1_ n2_ n3_ n4_ n5_ n6_; clear hb hbox hg
    refine hK.out _ _ ⟨(blk_cell BK293.out 0).trans rfl, (blk_cell BK293.out 1).trans rfl, (blk_cell BK293.out 2).trans rfl, (blk_cell BK293.out 3).trans rfl, (blk_cell BK293.out 4).trans rfl⟩ (fun hHeld => ?_)
    clear hK K
    refine norm_ (a' := ?_) ?_ ?_
    rotate_left
    ·exact qA11_c2
    refine one_ (i := 1) (N := some 18) qA11_b1 rfl rfl (qA11_21) (by decide) (fun K hK => ?_)
    refine goes_ Tryd.func7 (by kernel_rfl) rfl #[.slice A0 l0.length c0] (by rfl) rfl rfl (qA11_5) ?_
    with_reducible refine (laws_toPassageS.calls k _ _ l0 t295 _ ?side1 ?side2 A6.out).mono ?_
    (case side1 => exact (qA11_13))
    (case side2 => exact HC0.out)
    rintro e w16 ⟨v296, rfl, ho0, hb⟩
    refine ⟨_, rfl, ?_⟩
    have n0_ := Aside0.mk (Kd.R_lower ho0 (below_size (qA11_2)))
    have n1_ := Aside0.mk (blk_below (g := gb293) (o := .cells #[.int .i64 a1_0, .int .i64 a1_1, .int .i64 a1_2, .int .i64 a1_3, .int .i64 a1_4] 24 (0, 0)) (qA11_0) hb)
    have n2_ := Aside0.mk (blk_below (g := gb316) (o := .cells #[.int .i64 0, .int .i64 0, .int .i64 0, .int .i64 0, .int .i64 0, .int .i64 0, .int .i64 0, .int .i64 0, .int .i64 0, .int .i64 0, .int .i64 0, .int .i64 0] 28 (0, 0)) (qA11_6) hb)
    have n3_ := Aside0.mk (below_step (qA11_2) hb)
    clear BK293; clear BK316; clear HB
    have HO297 := n0_
    have BK293 := n1_
    have BK316 := n2_
    have HB := n3_
    clear n0_ n1_ n2_ n3_
    (try clear hb)
    (try clear hb2)
    (try clear hk)
    (try clear hi)
    (try clear ho0)
    refine hK.out _ _ ⟨(blk_cell BK293.out 0).trans rfl, (blk_cell BK293.out 1).trans rfl, (blk_cell BK293.out 2).trans rfl, (blk_cell BK293.out 3).trans rfl, (blk_cell BK293.out 4).trans rfl⟩ (fun hHeld => ?_)
    clear hK K
    refine norm_ (a' := ?_) ?_ ?_
    rotate_left
    ·show Act.put _ (some 18) _ = _
     simp only [Act.put, List.setIfInBounds_toArray, List.set_cons_zero, List.set_cons_succ, i64_w, i32_w]
     rfl
    refine one_ (i := 3) (N := some 20) qA11_b2 rfl rfl (qA11_21) (by decide) (fun K hK => ?_)
    refine goes_ Tryd.func8 (by kernel_rfl) rfl #[.agg #[.int .i64 a1_0, .int .i64 a1_1, .int .i64 a1_2, .int .i64 a1_3, .int .i64 a1_4]] (by rfl) rfl rfl (qA11_5) ?_
    with_reducible refine (laws_toLeg.calls a1_0 a1_1 a1_2 a1_3 a1_4 t298 t299 t300 t301 t302 _ A7.out).mono ?_
    rintro e w17 ⟨rfl, hb⟩
    refine ⟨_, rfl, ?_⟩
    have n0_ := Aside0.mk (Kd.R_below (qA11_9) hb)
    have n1_ := Aside0.mk (blk_below (g := gb293) (o := .cells #[.int .i64 a1_0, .int .i64 a1_1, .int .i64 a1_2, .int .i64 a1_3, .int .i64 a1_4] 24 (0, 0)) (qA11_0) hb)
    have n2_ := Aside0.mk (blk_below (g := gb316) (o := .cells #[.int .i64 0, .int .i64 0, .int .i64 0, .int .i64 0, .int .i64 0, .int .i64 0, .int .i64 0, .int .i64 0, .int .i64 0, .int .i64 0, .int .i64 0, .int .i64 0] 28 (0, 0)) (qA11_6) hb)
    have n3_ := Aside0.mk (below_step (qA11_2) hb)
    clear HO297; clear BK293; clear BK316; clear HB
    have HO297 := n0_
    have BK293 := n1_
    have BK316 := n2_
    have HB := n3_
    clear n0_ n1_ n2_ n3_
    (try clear hb)
    (try clear hb2)
    (try clear hk)
    (try clear hi)
    obtain ⟨Ao18, co18, eo18⟩ := Kd.R_slice HO297.out
    (first | subst eo18 | (injection eo18 with f1_ f2_ f3_; have f4_ := f1_.symm; have f5_ := f3_.symm; clear f1_ f2_ f3_; subst f4_; subst f5_))
    refine hK.out _ _ ⟨(blk_cell BK293.out 0).trans rfl, (blk_cell BK293.out 1).trans rfl, (blk_cell BK293.out 2).trans rfl, (blk_cell BK293.out 3).trans rfl, (blk_cell BK293.out 4).trans rfl⟩ (fun hHeld => ?_)
    clear hK K
    refine norm_ (a' := ?_) ?_ ?_
    rotate_left
    ·exact qA11_c4
    refine one_ (i := 4) (N := some 21) qA11_b3 rfl rfl (qA11_21) (by decide) (fun K hK => ?_)
    refine goes_ Tryd.func6 (by kernel_rfl) rfl #[.slice Ao18 t295.length co18, .agg #[.int .i64 t298, .int .i64 t299, .int .i64 t300, .int .i64 t301, .int .i64 t302]] (by rfl) rfl rfl (qA11_5) ?_
    with_reducible refine (spec_WallsAt.calls k _ _ t295 t298 t299 t300 t301 t302 t303 t304 t305 t306 t307 t308 t309 t310 t311 t312 t313 t314 t315 _ ?side1 ?side2 A8.out).mono ?_
    (case side1 => exact (qA11_16))
    (case side2 => exact (by exact (Kd.R_reads' HO297.out).2.1))
    rintro e w19 ⟨rfl, hb⟩
    refine ⟨_, rfl, ?_⟩
    have n0_ := Aside0.mk (Kd.R_below (qA11_9) hb)
    have n1_ := Aside0.mk (blk_below (g := gb293) (o := .cells #[.int .i64 a1_0, .int .i64 a1_1, .int .i64 a1_2, .int .i64 a1_3, .int .i64 a1_4] 24 (0, 0)) (qA11_0) hb)
    have n2_ := Aside0.mk (blk_below (g := gb316) (o := .cells #[.int .i64 0, .int .i64 0, .int .i64 0, .int .i64 0, .int .i64 0, .int .i64 0, .int .i64 0, .int .i64 0, .int .i64 0, .int .i64 0, .int .i64 0, .int .i64 0] 28 (0, 0)) (qA11_6) hb)
    have n3_ := Aside0.mk (below_step (qA11_2) hb)
    clear HO297; clear BK293; clear BK316; clear HB
    have HO297 := n0_
    have BK293 := n1_
    have BK316 := n2_
    have HB := n3_
    clear n0_ n1_ n2_ n3_
    (try clear hb)
    (try clear hb2)
    (try clear hk)
    (try clear hi)
    refine hK.out _ _ ⟨(blk_cell BK293.out 0).trans rfl, (blk_cell BK293.out 1).trans rfl, (blk_cell BK293.out 2).trans rfl, (blk_cell BK293.out 3).trans rfl, (blk_cell BK293.out 4).trans rfl⟩ (fun hHeld => ?_)
    clear hK K
    refine norm_ (a' := ?_) ?_ ?_
    rotate_left
    ·exact qA11_c1
    refine pure_ (i := 5) (N := some 16) (v := ?_) (a' := ?_) qA11_b4 rfl rfl (qA11_18) (fun _ _ _ h => h) (Or.inl ⟨by rfl, ?_⟩) ?_ ?_
    rotate_left; exact qA11_c3; rotate_left; exact qA11_c0
    refine pure_ (i := 6) (N := some 22) (v := ?_) (a' := ?_) qA11_b5 rfl rfl (qA11_18) (fun _ _ _ h => h) (Or.inl ⟨by rfl, ?_⟩) ?_ ?_
    rotate_left; exact qA11_c3; rotate_left; exact qA11_c0
    refine pure_ (i := 7) (N := some 23) (v := ?_) (a' := ?_) qA11_b0 rfl rfl (qA11_18) (fun _ _ _ h => h) (Or.inl ⟨by rfl, ?_⟩) ?_ ?_
    rotate_left; exact qA11_c3; rotate_left; exact qA11_c0
    exact norm_ (qA11_19) (hCont (.slice Ao18 t295.length co18, gb316) _ ⟨hHeld, (qA11_9), (qA11_0), (qA11_6), GW316.out, GE316.out, NB293_316.out, NB316_293.out, (qA11_2)⟩)
  rintro ⟨v296, gb316⟩ w20 ⟨hS_, h0_, h1_, h2_, h3_, h4_, h5_, h6_, h7_⟩
  have n0_ : Aside0 (Kd.R k43 43 w20 w.heap.size (fun _ => True) v296 t295) := ⟨h0_⟩
  have n1_ : Aside0 (w20.heap[gb293]? = some (.cells #[.int .i64 a1_0, .int .i64 a1_1, .int .i64 a1_2, .int .i64 a1_3, .int .i64 a1_4] 24 (0, 0))) := ⟨h1_⟩
  have n2_ : Aside0 (w20.heap[gb316]? = some (.cells #[.int .i64 0, .int .i64 0, .int .i64 0, .int .i64 0, .int .i64 0, .int .i64 0, .int .i64 0, .int .i64 0, .int .i64 0, .int .i64 0, .int .i64 0, .int .i64 0] 28 (0, 0))) := ⟨h2_⟩
  have n3_ : Aside0 (w.heap.size ≤ gb316) := ⟨h3_⟩
  have n4_ : Aside0 (w.heap.size ≤ gb316) := ⟨h4_⟩
  have n5_ : Aside0 (gb293 ≠ gb316) := ⟨h5_⟩
  have n6_ : Aside0 (gb316 ≠ gb293) := ⟨h6_⟩
  have n7_ : Aside0 (Below w.heap.size w w20) := ⟨h7_⟩
  clear BK293; clear HB; clear h0_ h1_ h2_ h3_ h4_ h5_ h6_ h7_
  have HO297 := n0_
  have BK293 := n1_
  have BK316 := n2_
  have GW316 := n3_
  have GE316 := n4_
  have NB293_316 := n5_
  have NB316_293 := n6_
  have HB := n7_
  clear n0_ n1_ n2_ n3_ n4_ n5_ n6_ n7_
  have hHeld : w20.cell? ⟨gb293, 0, none⟩ = some (.int .i64 a1_0) ∧ w20.cell? ⟨gb293, 1, none⟩ = some (.int .i64 a1_1) ∧ w20.cell? ⟨gb293, 2, none⟩ = some (.int .i64 a1_2) ∧ w20.cell? ⟨gb293, 3, none⟩ = some (.int .i64 a1_3) ∧ w20.cell? ⟨gb293, 4, none⟩ = some (.int .i64 a1_4) := hS_
  refine norm_ (a' := ?_) ?_ ?_
  rotate_left
  ·simp only [putAll, Act.put, List.setIfInBounds_toArray, List.set_cons_zero, List.set_cons_succ]
   rfl
  refine one_ (i := 9) (N := none) #[true, true, true, true, true, true, true, true, true, true, false] rfl rfl (qA11_21) (by decide) (fun K hK => ?_)
  have hs21 : w20.cell? ⟨gb316, 0, none⟩ = some (.int .i64 0) := (blk_cell BK316.out 0).trans rfl
  have hfs21 := blk_frozen BK316.out 0
  have hns21_0 := NB293_316.out
  have hms21_0 := NB316_293.out
  have hs22 : w20.cell? ⟨gb316, 1, none⟩ = some (.int .i64 0) := (blk_cell BK316.out 1).trans rfl
  have hfs22 := blk_frozen BK316.out 1
  have hns22_0 := NB293_316.out
  have hms22_0 := NB316_293.out
  have hs23 : w20.cell? ⟨gb316, 2, none⟩ = some (.int .i64 0) := (blk_cell BK316.out 2).trans rfl
  have hfs23 := blk_frozen BK316.out 2
  have hns23_0 := NB293_316.out
  have hms23_0 := NB316_293.out
  have hs24 : w20.cell? ⟨gb316, 3, none⟩ = some (.int .i64 0) := (blk_cell BK316.out 3).trans rfl
  have hfs24 := blk_frozen BK316.out 3
  have hns24_0 := NB293_316.out
  have hms24_0 := NB316_293.out
  have hs25 : w20.cell? ⟨gb316, 4, none⟩ = some (.int .i64 0) := (blk_cell BK316.out 4).trans rfl
  have hfs25 := blk_frozen BK316.out 4
  have hns25_0 := NB293_316.out
  have hms25_0 := NB316_293.out
  have hs26 : w20.cell? ⟨gb316, 5, none⟩ = some (.int .i64 0) := (blk_cell BK316.out 5).trans rfl
  have hfs26 := blk_frozen BK316.out 5
  have hns26_0 := NB293_316.out
  have hms26_0 := NB316_293.out
  have hs27 : w20.cell? ⟨gb316, 6, none⟩ = some (.int .i64 0) := (blk_cell BK316.out 6).trans rfl
  have hfs27 := blk_frozen BK316.out 6
  have hns27_0 := NB293_316.out
  have hms27_0 := NB316_293.out
  have hs28 : w20.cell? ⟨gb316, 7, none⟩ = some (.int .i64 0) := (blk_cell BK316.out 7).trans rfl
  have hfs28 := blk_frozen BK316.out 7
  have hns28_0 := NB293_316.out
  have hms28_0 := NB316_293.out
  have hs29 : w20.cell? ⟨gb316, 8, none⟩ = some (.int .i64 0) := (blk_cell BK316.out 8).trans rfl
  have hfs29 := blk_frozen BK316.out 8
  have hns29_0 := NB293_316.out
  have hms29_0 := NB316_293.out
  have hs30 : w20.cell? ⟨gb316, 9, none⟩ = some (.int .i64 0) := (blk_cell BK316.out 9).trans rfl
  have hfs30 := blk_frozen BK316.out 9
  have hns30_0 := NB293_316.out
  have hms30_0 := NB316_293.out
  have hs31 : w20.cell? ⟨gb316, 10, none⟩ = some (.int .i64 0) := (blk_cell BK316.out 10).trans rfl
  have hfs31 := blk_frozen BK316.out 10
  have hns31_0 := NB293_316.out
  have hms31_0 := NB316_293.out
  have hs32 : w20.cell? ⟨gb316, 11, none⟩ = some (.int .i64 0) := (blk_cell BK316.out 11).trans rfl
  have hfs32 := blk_frozen BK316.out 11
  have hns32_0 := NB293_316.out
  have hms32_0 := NB316_293.out
  refine skip_ (w1 := ?_) (by rfl) rfl ?_ ?_
  rotate_left
  ·go_simp
   rfl
  refine hK.out _ _ ⟨((cell_far (p := ⟨gb316, _, none⟩) NB293_316.out _).trans (((cell_far (p := ⟨gb316, _, none⟩) NB293_316.out _).trans (((cell_far (p := ⟨gb316, _, none⟩) NB293_316.out _).trans (((cell_far (p := ⟨gb316, _, none⟩) NB293_316.out _).trans (((cell_far (p := ⟨gb316, _, none⟩) NB293_316.out _).trans (((cell_far (p := ⟨gb316, _, none⟩) NB293_316.out _).trans (((cell_far (p := ⟨gb316, _, none⟩) NB293_316.out _).trans (((cell_far (p := ⟨gb316, _, none⟩) NB293_316.out _).trans (((cell_far (p := ⟨gb316, _, none⟩) NB293_316.out _).trans (((cell_far (p := ⟨gb316, _, none⟩) NB293_316.out _).trans (((cell_far (p := ⟨gb316, _, none⟩) NB293_316.out _).trans (((cell_far (p := ⟨gb316, _, none⟩) NB293_316.out _).trans (hHeld.1)))))))))))))))))))))))), ((cell_far (p := ⟨gb316, _, none⟩) NB293_316.out _).trans (((cell_far (p := ⟨gb316, _, none⟩) NB293_316.out _).trans (((cell_far (p := ⟨gb316, _, none⟩) NB293_316.out _).trans (((cell_far (p := ⟨gb316, _, none⟩) NB293_316.out _).trans (((cell_far (p := ⟨gb316, _, none⟩) NB293_316.out _).trans (((cell_far (p := ⟨gb316, _, none⟩) NB293_316.out _).trans (((cell_far (p := ⟨gb316, _, none⟩) NB293_316.out _).trans (((cell_far (p := ⟨gb316, _, none⟩) NB293_316.out _).trans (((cell_far (p := ⟨gb316, _, none⟩) NB293_316.out _).trans (((cell_far (p := ⟨gb316, _, none⟩) NB293_316.out _).trans (((cell_far (p := ⟨gb316, _, none⟩) NB293_316.out _).trans (((cell_far (p := ⟨gb316, _, none⟩) NB293_316.out _).trans (hHeld.2.1)))))))))))))))))))))))), ((cell_far (p := ⟨gb316, _, none⟩) NB293_316.out _).trans (((cell_far (p := ⟨gb316, _, none⟩) NB293_316.out _).trans (((cell_far (p := ⟨gb316, _, none⟩) NB293_316.out _).trans (((cell_far (p := ⟨gb316, _, none⟩) NB293_316.out _).trans (((cell_far (p := ⟨gb316, _, none⟩) NB293_316.out _).trans (((cell_far (p := ⟨gb316, _, none⟩) NB293_316.out _).trans (((cell_far (p := ⟨gb316, _, none⟩) NB293_316.out _).trans (((cell_far (p := ⟨gb316, _, none⟩) NB293_316.out _).trans (((cell_far (p := ⟨gb316, _, none⟩) NB293_316.out _).trans (((cell_far (p := ⟨gb316, _, none⟩) NB293_316.out _).trans (((cell_far (p := ⟨gb316, _, none⟩) NB293_316.out _).trans (((cell_far (p := ⟨gb316, _, none⟩) NB293_316.out _).trans (hHeld.2.2.1)))))))))))))))))))))))), ((cell_far (p := ⟨gb316, _, none⟩) NB293_316.out _).trans (((cell_far (p := ⟨gb316, _, none⟩) NB293_316.out _).trans (((cell_far (p := ⟨gb316, _, none⟩) NB293_316.out _).trans (((cell_far (p := ⟨gb316, _, none⟩) NB293_316.out _).trans (((cell_far (p := ⟨gb316, _, none⟩) NB293_316.out _).trans (((cell_far (p := ⟨gb316, _, none⟩) NB293_316.out _).trans (((cell_far (p := ⟨gb316, _, none⟩) NB293_316.out _).trans (((cell_far (p := ⟨gb316, _, none⟩) NB293_316.out _).trans (((cell_far (p := ⟨gb316, _, none⟩) NB293_316.out _).trans (((cell_far (p := ⟨gb316, _, none⟩) NB293_316.out _).trans (((cell_far (p := ⟨gb316, _, none⟩) NB293_316.out _).trans (((cell_far (p := ⟨gb316, _, none⟩) NB293_316.out _).trans (hHeld.2.2.2.1)))))))))))))))))))))))), ((cell_far (p := ⟨gb316, _, none⟩) NB293_316.out _).trans (((cell_far (p := ⟨gb316, _, none⟩) NB293_316.out _).trans (((cell_far (p := ⟨gb316, _, none⟩) NB293_316.out _).trans (((cell_far (p := ⟨gb316, _, none⟩) NB293_316.out _).trans (((cell_far (p := ⟨gb316, _, none⟩) NB293_316.out _).trans (((cell_far (p := ⟨gb316, _, none⟩) NB293_316.out _).trans (((cell_far (p := ⟨gb316, _, none⟩) NB293_316.out _).trans (((cell_far (p := ⟨gb316, _, none⟩) NB293_316.out _).trans (((cell_far (p := ⟨gb316, _, none⟩) NB293_316.out _).trans (((cell_far (p := ⟨gb316, _, none⟩) NB293_316.out _).trans (((cell_far (p := ⟨gb316, _, none⟩) NB293_316.out _).trans (((cell_far (p := ⟨gb316, _, none⟩) NB293_316.out _).trans (hHeld.2.2.2.2))))))))))))))))))))))))⟩ (fun hHeld => ?_)
  clear hK K
  refine pure_ (i := 10) (N := some 7) (v := ?_) (a' := ?_) #[true, true, true, true, true, true, true, true, true, true, true] rfl rfl (qA11_18) (fun _ _ _ h => h) (Or.inl ⟨by rfl, ?_⟩) ?_ ?_
  rotate_left; exact qA11_c3; rotate_left; exact qA11_c0
  refine done_ (by exact done_of HT_.out (by kernel_rfl)) ?_
  go_upto_region 8 with (first | ((with_reducible refine gate_callee (f := 7) rfl ?_); refine goesL_ (some 25) rfl rfl Tryd.func7 (by kernel_rfl) rfl #[.slice A0 l0.length c0] rfl (qA11_5) ?_; (with_reducible refine (laws_toPassageS.calls k _ _ l0 t317 _ ?side1 ?side2 A9.out).mono ?_); (case side1 => exact (by exact Kd.C_below HR0.out (qA11_2))); (case side2 => exact HC0.out); rintro e w33 ⟨v318, rfl, ho0, hb⟩; refine ⟨_, rfl, ?_⟩; have n0_ := Aside0.mk (Kd.R_elder' (qA11_10) (Kd.R_base ho0) hb); have n1_ := Aside0.mk (Kd.R_lower (Kd.R_new' ho0 (Kd.R_lt (qA11_10))) (below_size (qA11_2))); have n2_ := Aside0.mk (blk_below (g := gb293) (o := .cells #[.int .i64 a1_0, .int .i64 a1_1, .int .i64 a1_2, .int .i64 a1_3, .int .i64 a1_4] 24 (0, 0)) (by (with_reducible repeat (first | refine blk_drewN ?_ _ | refine blk_drew ?_ | refine blk_alloc ?_ _)); refine blk_far ?_ NB293_316.out _; (with_reducible repeat (first | refine blk_drewN ?_ _ | refine blk_drew ?_ | refine blk_alloc ?_ _)); refine blk_far ?_ NB293_316.out _; (with_reducible repeat (first | refine blk_drewN ?_ _ | refine blk_drew ?_ | refine blk_alloc ?_ _)); refine blk_far ?_ NB293_316.out _; (with_reducible repeat (first | refine blk_drewN ?_ _ | refine blk_drew ?_ | refine blk_alloc ?_ _)); refine blk_far ?_ NB293_316.out _; (with_reducible repeat (first | refine blk_drewN ?_ _ | refine blk_drew ?_ | refine blk_alloc ?_ _)); refine blk_far ?_ NB293_316.out _; (with_reducible repeat (first | refine blk_drewN ?_ _ | refine blk_drew ?_ | refine blk_alloc ?_ _)); refine blk_far ?_ NB293_316.out _; (with_reducible repeat (first | refine blk_drewN ?_ _ | refine blk_drew ?_ | refine blk_alloc ?_ _)); refine blk_far ?_ NB293_316.out _; (with_reducible repeat (first | refine blk_drewN ?_ _ | refine blk_drew ?_ | refine blk_alloc ?_ _)); refine blk_far ?_ NB293_316.out _; (with_reducible repeat (first | refine blk_drewN ?_ _ | refine blk_drew ?_ | refine blk_alloc ?_ _)); refine blk_far ?_ NB293_316.out _; (with_reducible repeat (first | refine blk_drewN ?_ _ | refine blk_drew ?_ | refine blk_alloc ?_ _)); refine blk_far ?_ NB293_316.out _; (with_reducible repeat (first | refine blk_drewN ?_ _ | refine blk_drew ?_ | refine blk_alloc ?_ _)); refine blk_far ?_ NB293_316.out _; (with_reducible repeat (first | refine blk_drewN ?_ _ | refine blk_drew ?_ | refine blk_alloc ?_ _)); refine blk_far ?_ NB293_316.out _; (with_reducible repeat (first | refine blk_drewN ?_ _ | refine blk_drew ?_ | refine blk_alloc ?_ _)); exact BK293.out) hb); have n3_ := Aside0.mk (blk_below (g := gb316) (o := .cells #[.int .i64 t303, .int .i64 t304, .int .i64 t305, .int .i64 t306, .int .i64 t307, .int .i64 t308, .int .i64 t309, .int .i64 t310, .int .i64 t311, .int .i64 t312, .int .i64 t313, .int .i64 t314] 28 (0, 0)) (by (with_reducible repeat (first | refine blk_drewN ?_ _ | refine blk_drew ?_ | refine blk_alloc ?_ _)); refine blk_put (cs := #[.int .i64 t303, .int .i64 t304, .int .i64 t305, .int .i64 t306, .int .i64 t307, .int .i64 t308, .int .i64 t309, .int .i64 t310, .int .i64 t311, .int .i64 t312, .int .i64 t313, .int .i64 0]) ?_ 11 _ rfl; (with_reducible repeat (first | refine blk_drewN ?_ _ | refine blk_drew ?_ | refine blk_alloc ?_ _)); refine blk_put (cs := #[.int .i64 t303, .int .i64 t304, .int .i64 t305, .int .i64 t306, .int .i64 t307, .int .i64 t308, .int .i64 t309, .int .i64 t310, .int .i64 t311, .int .i64 t312, .int .i64 0, .int .i64 0]) ?_ 10 _ rfl; (with_reducible repeat (first | refine blk_drewN ?_ _ | refine blk_drew ?_ | refine blk_alloc ?_ _)); refine blk_put (cs := #[.int .i64 t303, .int .i64 t304, .int .i64 t305, .int .i64 t306, .int .i64 t307, .int .i64 t308, .int .i64 t309, .int .i64 t310, .int .i64 t311, .int .i64 0, .int .i64 0, .int .i64 0]) ?_ 9 _ rfl; (with_reducible repeat (first | refine blk_drewN ?_ _ | refine blk_drew ?_ | refine blk_alloc ?_ _)); refine blk_put (cs := #[.int .i64 t303, .int .i64 t304, .int .i64 t305, .int .i64 t306, .int .i64 t307, .int .i64 t308, .int .i64 t309, .int .i64 t310, .int .i64 0, .int .i64 0, .int .i64 0, .int .i64 0]) ?_ 8 _ rfl; (with_reducible repeat (first | refine blk_drewN ?_ _ | refine blk_drew ?_ | refine blk_alloc ?_ _)); refine blk_put (cs := #[.int .i64 t303, .int .i64 t304, .int .i64 t305, .int .i64 t306, .int .i64 t307, .int .i64 t308, .int .i64 t309, .int .i64 0, .int .i64 0, .int .i64 0, .int .i64 0, .int .i64 0]) ?_ 7 _ rfl; (with_reducible repeat (first | refine blk_drewN ?_ _ | refine blk_drew ?_ | refine blk_alloc ?_ _)); refine blk_put (cs := #[.int .i64 t303, .int .i64 t304, .int .i64 t305, .int .i64 t306, .int .i64 t307, .int .i64 t308, .int .i64 0, .int .i64 0, .int .i64 0, .int .i64 0, .int .i64 0, .int .i64 0]) ?_ 6 _ rfl; (with_reducible repeat (first | refine blk_drewN ?_ _ | refine blk_drew ?_ | refine blk_alloc ?_ _)); refine blk_put (cs := #[.int .i64 t303, .int .i64 t304, .int .i64 t305, .int .i64 t306, .int .i64 t307, .int .i64 0, .int .i64 0, .int .i64 0, .int .i64 0, .int .i64 0, .int .i64 0, .int .i64 0]) ?_ 5 _ rfl; (with_reducible repeat (first | refine blk_drewN ?_ _ | refine blk_drew ?_ | refine blk_alloc ?_ _)); refine blk_put (cs := #[.int .i64 t303, .int .i64 t304, .int .i64 t305, .int .i64 t306, .int .i64 0, .int .i64 0, .int .i64 0, .int .i64 0, .int .i64 0, .int .i64 0, .int .i64 0, .int .i64 0]) ?_ 4 _ rfl; (with_reducible repeat (first | refine blk_drewN ?_ _ | refine blk_drew ?_ | refine blk_alloc ?_ _)); refine blk_put (cs := #[.int .i64 t303, .int .i64 t304, .int .i64 t305, .int .i64 0, .int .i64 0, .int .i64 0, .int .i64 0, .int .i64 0, .int .i64 0, .int .i64 0, .int .i64 0, .int .i64 0]) ?_ 3 _ rfl; (with_reducible repeat (first | refine blk_drewN ?_ _ | refine blk_drew ?_ | refine blk_alloc ?_ _)); refine blk_put (cs := #[.int .i64 t303, .int .i64 t304, .int .i64 0, .int .i64 0, .int .i64 0, .int .i64 0, .int .i64 0, .int .i64 0, .int .i64 0, .int .i64 0, .int .i64 0, .int .i64 0]) ?_ 2 _ rfl; (with_reducible repeat (first | refine blk_drewN ?_ _ | refine blk_drew ?_ | refine blk_alloc ?_ _)); refine blk_put (cs := #[.int .i64 t303, .int .i64 0, .int .i64 0, .int .i64 0, .int .i64 0, .int .i64 0, .int .i64 0, .int .i64 0, .int .i64 0, .int .i64 0, .int .i64 0, .int .i64 0]) ?_ 1 _ rfl; (with_reducible repeat (first | refine blk_drewN ?_ _ | refine blk_drew ?_ | refine blk_alloc ?_ _)); refine blk_put (cs := #[.int .i64 0, .int .i64 0, .int .i64 0, .int .i64 0, .int .i64 0, .int .i64 0, .int .i64 0, .int .i64 0, .int .i64 0, .int .i64 0, .int .i64 0, .int .i64 0]) ?_ 0 _ rfl; (with_reducible repeat (first | refine blk_drewN ?_ _ | refine blk_drew ?_ | refine blk_alloc ?_ _)); exact BK316.out) hb); have n4_ := Aside0.mk (below_step (qA11_2) hb); clear HO297 BK293 BK316 HB; have HO297 := n0_; have HO319 := n1_; have BK293 := n2_; have BK316 := n3_; have HB := n4_; clear n0_ n1_ n2_ n3_ n4_; (try clear hb); (try clear hb2); (try clear hk); (try clear hi); (try clear ho0); have hnb34 := NB293_316.out; have hnc34 := NB316_293.out; have hcz35_0 : w33.cell? ⟨gb293, 0, none⟩ = some (.int .i64 a1_0) := (blk_cell BK293.out 0).trans rfl; have hcz35_1 : w33.cell? ⟨gb293, 1, none⟩ = some (.int .i64 a1_1) := (blk_cell BK293.out 1).trans rfl; have hcz35_2 : w33.cell? ⟨gb293, 2, none⟩ = some (.int .i64 a1_2) := (blk_cell BK293.out 2).trans rfl; have hcz35_3 : w33.cell? ⟨gb293, 3, none⟩ = some (.int .i64 a1_3) := (blk_cell BK293.out 3).trans rfl; have hcz35_4 : w33.cell? ⟨gb293, 4, none⟩ = some (.int .i64 a1_4) := (blk_cell BK293.out 4).trans rfl; have hfz35_0 := blk_frozen BK293.out 0; have hfz35_1 := blk_frozen BK293.out 1; have hfz35_2 := blk_frozen BK293.out 2; have hfz35_3 := blk_frozen BK293.out 3; have hfz35_4 := blk_frozen BK293.out 4) | ((with_reducible refine gate_callee (f := 8) rfl ?_); refine goesL_ (some 29) rfl rfl Tryd.func8 (by kernel_rfl) rfl #[.agg #[.int .i64 a1_0, .int .i64 a1_1, .int .i64 a1_2, .int .i64 a1_3, .int .i64 a1_4]] rfl (qA11_5) ?_; (with_reducible refine (laws_toLeg.calls a1_0 a1_1 a1_2 a1_3 a1_4 t320 t321 t322 t323 t324 _ A10.out).mono ?_); rintro e w36 ⟨rfl, hb⟩; refine ⟨_, rfl, ?_⟩; have n0_ := Aside0.mk (Kd.R_below (qA11_9) hb); have n1_ := Aside0.mk (Kd.R_below (qA11_23) hb); have n2_ := Aside0.mk (blk_below (g := gb293) (o := .cells #[.int .i64 a1_0, .int .i64 a1_1, .int .i64 a1_2, .int .i64 a1_3, .int .i64 a1_4] 24 (0, 0)) (qA11_0) hb); have n3_ := Aside0.mk (blk_below (g := gb316) (o := .cells #[.int .i64 t303, .int .i64 t304, .int .i64 t305, .int .i64 t306, .int .i64 t307, .int .i64 t308, .int .i64 t309, .int .i64 t310, .int .i64 t311, .int .i64 t312, .int .i64 t313, .int .i64 t314] 28 (0, 0)) (qA11_6) hb); have n4_ := Aside0.mk (below_step (qA11_2) hb); clear HO297 HO319 BK293 BK316 HB; have HO297 := n0_; have HO319 := n1_; have BK293 := n2_; have BK316 := n3_; have HB := n4_; clear n0_ n1_ n2_ n3_ n4_; (try clear hb); (try clear hb2); (try clear hk); (try clear hi); obtain ⟨Ao37, co37, eo37⟩ := Kd.R_slice HO319.out; subst eo37) | ((with_reducible refine gate_callee (f := 9) rfl ?_); refine goesL_ (some 30) rfl rfl Tryd.func9 (by kernel_rfl) rfl #[.slice Ao37 t317.length co37, .agg #[.int .i64 t320, .int .i64 t321, .int .i64 t322, .int .i64 t323, .int .i64 t324]] rfl (qA11_5) ?_; (with_reducible refine (impl_WallsAt.calls (hsn := (by first | (with_reducible exact HSN.out) | (with_reducible exact TabS.drewN HSN.out _) | exact TabS.below HSN.out (qA11_2) | exact HSN.out)) k _ _ t317 t320 t321 t322 t323 t324 t325 t326 t327 t328 t329 t330 t331 t332 t333 t334 t335 t336 t337 _ ?side1 ?side2 A11.out).mono ?_); (case side1 => exact (by repeat (first | exact (Kd.R_reads' HO319.out).2.2 | (with_reducible refine Kd.C_alloc ?_ _) | (with_reducible refine Kd.C_drewN ?_ _) | (with_reducible refine Kd.C_drew ?_)))); (case side2 => exact (by exact (Kd.R_reads' HO319.out).2.1)); rintro e w38 ⟨rfl, hb⟩; refine ⟨_, rfl, ?_⟩; have n0_ := Aside0.mk (Kd.R_below (qA11_9) hb); have n1_ := Aside0.mk (Kd.R_below (qA11_23) hb); have n2_ := Aside0.mk (blk_below (g := gb293) (o := .cells #[.int .i64 a1_0, .int .i64 a1_1, .int .i64 a1_2, .int .i64 a1_3, .int .i64 a1_4] 24 (0, 0)) (qA11_0) hb); have n3_ := Aside0.mk (blk_below (g := gb316) (o := .cells #[.int .i64 t303, .int .i64 t304, .int .i64 t305, .int .i64 t306, .int .i64 t307, .int .i64 t308, .int .i64 t309, .int .i64 t310, .int .i64 t311, .int .i64 t312, .int .i64 t313, .int .i64 t314] 28 (0, 0)) (qA11_6) hb); have n4_ := Aside0.mk (below_step (qA11_2) hb); clear HO297 HO319 BK293 BK316 HB; have HO297 := n0_; have HO319 := n1_; have BK293 := n2_; have BK316 := n3_; have HB := n4_; clear n0_ n1_ n2_ n3_ n4_; (try clear hb); (try clear hb2); (try clear hk); (try clear hi)) | ((with_reducible refine gate_dst (N := 9) rfl ?_); refine box_event ?hg (N := 9) ?hd (cs := #[.int .i64 0, .int .i64 0, .int .i64 0, .int .i64 0, .int .i64 0, .int .i64 0, .int .i64 0, .int .i64 0, .int .i64 0, .int .i64 0, .int .i64 0, .int .i64 0]) (t := 28) ?hr ?_; (case hd => rfl); (case hg => rfl); (case hr => exact (qA11_22)); intro gb338 hg w39 hbox hb; have n0_ := Aside0.mk (Kd.R_below (qA11_9) hb); have n1_ := Aside0.mk (Kd.R_below (qA11_23) hb); have n2_ := Aside0.mk (blk_below (g := gb293) (o := .cells #[.int .i64 a1_0, .int .i64 a1_1, .int .i64 a1_2, .int .i64 a1_3, .int .i64 a1_4] 24 (0, 0)) (qA11_0) hb); have n3_ := Aside0.mk (blk_below (g := gb316) (o := .cells #[.int .i64 t303, .int .i64 t304, .int .i64 t305, .int .i64 t306, .int .i64 t307, .int .i64 t308, .int .i64 t309, .int .i64 t310, .int .i64 t311, .int .i64 t312, .int .i64 t313, .int .i64 t314] 28 (0, 0)) (qA11_6) hb); have n4_ := Aside0.mk (below_step (qA11_2) hb); have n5_ := Aside0.mk (hbox); have n6_ := Aside0.mk ((by rw [hg]; exact (below_size (qA11_2)) : w.heap.size ≤ gb338)); have n7_ := Aside0.mk ((by rw [hg]; exact (below_size (qA11_2)) : w.heap.size ≤ gb338)); have n8_ := Aside0.mk ((by rw [hg]; exact Nat.ne_of_lt (blk_lt (g := gb293) (o := .cells #[.int .i64 a1_0, .int .i64 a1_1, .int .i64 a1_2, .int .i64 a1_3, .int .i64 a1_4] 24 (0, 0)) (qA11_0)) : gb293 ≠ gb338)); have n9_ := Aside0.mk ((by rw [hg]; exact Nat.ne_of_gt (blk_lt (g := gb293) (o := .cells #[.int .i64 a1_0, .int .i64 a1_1, .int .i64 a1_2, .int .i64 a1_3, .int .i64 a1_4] 24 (0, 0)) (qA11_0)) : gb338 ≠ gb293)); have n10_ := Aside0.mk ((by rw [hg]; exact Nat.ne_of_lt (blk_lt (g := gb316) (o := .cells #[.int .i64 t303, .int .i64 t304, .int .i64 t305, .int .i64 t306, .int .i64 t307, .int .i64 t308, .int .i64 t309, .int .i64 t310, .int .i64 t311, .int .i64 t312, .int .i64 t313, .int .i64 t314] 28 (0, 0)) (qA11_6)) : gb316 ≠ gb338)); have n11_ := Aside0.mk ((by rw [hg]; exact Nat.ne_of_gt (blk_lt (g := gb316) (o := .cells #[.int .i64 t303, .int .i64 t304, .int .i64 t305, .int .i64 t306, .int .i64 t307, .int .i64 t308, .int .i64 t309, .int .i64 t310, .int .i64 t311, .int .i64 t312, .int .i64 t313, .int .i64 t314] 28 (0, 0)) (qA11_6)) : gb338 ≠ gb316)); clear HO297 HO319 BK293 BK316 HB; have HO297 := n0_; have HO319 := n1_; have BK293 := n2_; have BK316 := n3_; have HB := n4_; have BK338 := n5_; have GW338 := n6_; have GE338 := n7_; have NB293_338 := n8_; have NB338_293 := n9_; have NB316_338 := n10_; have NB338_316 := n11_; clear n0_ n1_ n2_ n3_ n4_ n5_ n6_ n7_ n8_ n9_ n10_ n11_; clear hb hbox hg; have hnb40 := NB338_293.out; have hnc40 := NB293_338.out; have hnb41 := NB338_316.out; have hnc41 := NB316_338.out; have hcz42_0 : w39.cell? ⟨gb338, 0, none⟩ = some (.int .i64 0) := (blk_cell BK338.out 0).trans rfl; have hcz42_1 : w39.cell? ⟨gb338, 1, none⟩ = some (.int .i64 0) := (blk_cell BK338.out 1).trans rfl; have hcz42_2 : w39.cell? ⟨gb338, 2, none⟩ = some (.int .i64 0) := (blk_cell BK338.out 2).trans rfl; have hcz42_3 : w39.cell? ⟨gb338, 3, none⟩ = some (.int .i64 0) := (blk_cell BK338.out 3).trans rfl; have hcz42_4 : w39.cell? ⟨gb338, 4, none⟩ = some (.int .i64 0) := (blk_cell BK338.out 4).trans rfl; have hcz42_5 : w39.cell? ⟨gb338, 5, none⟩ = some (.int .i64 0) := (blk_cell BK338.out 5).trans rfl; have hcz42_6 : w39.cell? ⟨gb338, 6, none⟩ = some (.int .i64 0) := (blk_cell BK338.out 6).trans rfl; have hcz42_7 : w39.cell? ⟨gb338, 7, none⟩ = some (.int .i64 0) := (blk_cell BK338.out 7).trans rfl; have hcz42_8 : w39.cell? ⟨gb338, 8, none⟩ = some (.int .i64 0) := (blk_cell BK338.out 8).trans rfl; have hcz42_9 : w39.cell? ⟨gb338, 9, none⟩ = some (.int .i64 0) := (blk_cell BK338.out 9).trans rfl; have hcz42_10 : w39.cell? ⟨gb338, 10, none⟩ = some (.int .i64 0) := (blk_cell BK338.out 10).trans rfl; have hcz42_11 : w39.cell? ⟨gb338, 11, none⟩ = some (.int .i64 0) := (blk_cell BK338.out 11).trans rfl; have hfz42_0 := blk_frozen BK338.out 0; have hfz42_1 := blk_frozen BK338.out 1; have hfz42_2 := blk_frozen BK338.out 2; have hfz42_3 := blk_frozen BK338.out 3; have hfz42_4 := blk_frozen BK338.out 4; have hfz42_5 := blk_frozen BK338.out 5; have hfz42_6 := blk_frozen BK338.out 6; have hfz42_7 := blk_frozen BK338.out 7; have hfz42_8 := blk_frozen BK338.out 8; have hfz42_9 := blk_frozen BK338.out 9; have hfz42_10 := blk_frozen BK338.out 10; have hfz42_11 := blk_frozen BK338.out 11))
  (try simp only [Act.put, List.setIfInBounds_toArray, List.set_cons_zero, List.set_cons_succ])
  go_cut [41] (fun v41 wc => ∃ (kq : Nat) (x41_11 : Bool), v41 = .bool x41_11 ∧ Aside0 (laws_FnExactWallsAt.j0 kq l0 t317 x41_11 = some r) ∧ Aside0 (kq ≤ k) ∧ Aside0 (Kd.R k43 43 wc w.heap.size (fun _ => True) (.slice Ao37 t317.length co37) t317) ∧ Aside0 (wc.heap[gb293]? = some (.cells #[.int .i64 a1_0, .int .i64 a1_1, .int .i64 a1_2, .int .i64 a1_3, .int .i64 a1_4] 24 (0, 0))) ∧ Aside0 (wc.heap[gb316]? = some (.cells #[.int .i64 t303, .int .i64 t304, .int .i64 t305, .int .i64 t306, .int .i64 t307, .int .i64 t308, .int .i64 t309, .int .i64 t310, .int .i64 t311, .int .i64 t312, .int .i64 t313, .int .i64 t314] 28 (0, 0))) ∧ Aside0 (wc.heap[gb338]? = some (.cells #[.int .i64 t325, .int .i64 t326, .int .i64 t327, .int .i64 t328, .int .i64 t329, .int .i64 t330, .int .i64 t331, .int .i64 t332, .int .i64 t333, .int .i64 t334, .int .i64 t335, .int .i64 t336] 28 (0, 0))) ∧ Aside0 (Below w.heap.size w wc))
  case first =>
   have H := HC12.out
   clear HC12; replace H := Option.bind_eq_some_iff.mp H; obtain ⟨t339, A430, H⟩ := H
   try dsimp only at H
   have A43 := Aside0.mk A430; clear A430
   by_cases c44 : t339 = true
   ·subst c44
    have H1 : (laws_FnExactWallsAt.j0 k l0 t317 (t337 != t315)) = some r := by rw [if_pos rfl] at H; exact H
    clear H; have H := H1; clear H1
    have H' := Aside0.mk H
    clear H
    have hnb45 := NB338_293.out
    have hnc45 := NB293_338.out
    have hnb46 := NB338_316.out
    have hnc46 := NB316_338.out
    have hcz47_0 : w39.cell? ⟨gb338, 0, none⟩ = some (.int .i64 0) := (blk_cell BK338.out 0).trans rfl
    have hcz47_1 : w39.cell? ⟨gb338, 1, none⟩ = some (.int .i64 0) := (blk_cell BK338.out 1).trans rfl
    have hcz47_2 : w39.cell? ⟨gb338, 2, none⟩ = some (.int .i64 0) := (blk_cell BK338.out 2).trans rfl
    have hcz47_3 : w39.cell? ⟨gb338, 3, none⟩ = some (.int .i64 0) := (blk_cell BK338.out 3).trans rfl
    have hcz47_4 : w39.cell? ⟨gb338, 4, none⟩ = some (.int .i64 0) := (blk_cell BK338.out 4).trans rfl
    have hcz47_5 : w39.cell? ⟨gb338, 5, none⟩ = some (.int .i64 0) := (blk_cell BK338.out 5).trans rfl
    have hcz47_6 : w39.cell? ⟨gb338, 6, none⟩ = some (.int .i64 0) := (blk_cell BK338.out 6).trans rfl
    have hcz47_7 : w39.cell? ⟨gb338, 7, none⟩ = some (.int .i64 0) := (blk_cell BK338.out 7).trans rfl
    have hcz47_8 : w39.cell? ⟨gb338, 8, none⟩ = some (.int .i64 0) := (blk_cell BK338.out 8).trans rfl
    have hcz47_9 : w39.cell? ⟨gb338, 9, none⟩ = some (.int .i64 0) := (blk_cell BK338.out 9).trans rfl
    have hcz47_10 : w39.cell? ⟨gb338, 10, none⟩ = some (.int .i64 0) := (blk_cell BK338.out 10).trans rfl
    have hcz47_11 : w39.cell? ⟨gb338, 11, none⟩ = some (.int .i64 0) := (blk_cell BK338.out 11).trans rfl
    have hfz47_0 := blk_frozen BK338.out 0
    have hfz47_1 := blk_frozen BK338.out 1
    have hfz47_2 := blk_frozen BK338.out 2
    have hfz47_3 := blk_frozen BK338.out 3
    have hfz47_4 := blk_frozen BK338.out 4
    have hfz47_5 := blk_frozen BK338.out 5
    have hfz47_6 := blk_frozen BK338.out 6
    have hfz47_7 := blk_frozen BK338.out 7
    have hfz47_8 := blk_frozen BK338.out 8
    have hfz47_9 := blk_frozen BK338.out 9
    have hfz47_10 := blk_frozen BK338.out 10
    have hfz47_11 := blk_frozen BK338.out 11
    have hnb48 := NB316_293.out
    have hnc48 := NB293_316.out
    have hcz49_0 : w39.cell? ⟨gb316, 0, none⟩ = some (.int .i64 t303) := (blk_cell BK316.out 0).trans rfl
    have hcz49_1 : w39.cell? ⟨gb316, 1, none⟩ = some (.int .i64 t304) := (blk_cell BK316.out 1).trans rfl
    have hcz49_2 : w39.cell? ⟨gb316, 2, none⟩ = some (.int .i64 t305) := (blk_cell BK316.out 2).trans rfl
    have hcz49_3 : w39.cell? ⟨gb316, 3, none⟩ = some (.int .i64 t306) := (blk_cell BK316.out 3).trans rfl
    have hcz49_4 : w39.cell? ⟨gb316, 4, none⟩ = some (.int .i64 t307) := (blk_cell BK316.out 4).trans rfl
    have hcz49_5 : w39.cell? ⟨gb316, 5, none⟩ = some (.int .i64 t308) := (blk_cell BK316.out 5).trans rfl
    have hcz49_6 : w39.cell? ⟨gb316, 6, none⟩ = some (.int .i64 t309) := (blk_cell BK316.out 6).trans rfl
    have hcz49_7 : w39.cell? ⟨gb316, 7, none⟩ = some (.int .i64 t310) := (blk_cell BK316.out 7).trans rfl
    have hcz49_8 : w39.cell? ⟨gb316, 8, none⟩ = some (.int .i64 t311) := (blk_cell BK316.out 8).trans rfl
    have hcz49_9 : w39.cell? ⟨gb316, 9, none⟩ = some (.int .i64 t312) := (blk_cell BK316.out 9).trans rfl
    have hcz49_10 : w39.cell? ⟨gb316, 10, none⟩ = some (.int .i64 t313) := (blk_cell BK316.out 10).trans rfl
    have hcz49_11 : w39.cell? ⟨gb316, 11, none⟩ = some (.int .i64 t314) := (blk_cell BK316.out 11).trans rfl
    have hfz49_0 := blk_frozen BK316.out 0
    have hfz49_1 := blk_frozen BK316.out 1
    have hfz49_2 := blk_frozen BK316.out 2
    have hfz49_3 := blk_frozen BK316.out 3
    have hfz49_4 := blk_frozen BK316.out 4
    have hfz49_5 := blk_frozen BK316.out 5
    have hfz49_6 := blk_frozen BK316.out 6
    have hfz49_7 := blk_frozen BK316.out 7
    have hfz49_8 := blk_frozen BK316.out 8
    have hfz49_9 := blk_frozen BK316.out 9
    have hfz49_10 := blk_frozen BK316.out 10
    have hfz49_11 := blk_frozen BK316.out 11
    go_wp2_with (first | ((with_reducible refine gate_callee (f := 10) rfl ?_); refine goesL_ (some 35) rfl rfl Tryd.func10 (by kernel_rfl) rfl #[.agg #[.int .i64 t325, .int .i64 t326, .int .i64 t327, .int .i64 t328, .int .i64 t329, .int .i64 t330, .int .i64 t331, .int .i64 t332, .int .i64 t333, .int .i64 t334, .int .i64 t335, .int .i64 t336], .agg #[.int .i64 t303, .int .i64 t304, .int .i64 t305, .int .i64 t306, .int .i64 t307, .int .i64 t308, .int .i64 t309, .int .i64 t310, .int .i64 t311, .int .i64 t312, .int .i64 t313, .int .i64 t314]] rfl (qA11_5) ?_; (with_reducible refine (laws_eqShiftA4.calls t325 t326 t327 t328 t329 t330 t331 t332 t333 t334 t335 t336 t303 t304 t305 t306 t307 t308 t309 t310 t311 t312 t313 t314 true _ A43.out).mono ?_); rintro e w50 ⟨rfl, hb⟩; refine ⟨_, rfl, ?_⟩; have n0_ := Aside0.mk (Kd.R_below (qA11_11) hb); have n1_ := Aside0.mk (Kd.R_below (qA11_12) hb); have n2_ := Aside0.mk (blk_below (g := gb293) (o := .cells #[.int .i64 a1_0, .int .i64 a1_1, .int .i64 a1_2, .int .i64 a1_3, .int .i64 a1_4] 24 (0, 0)) (qA11_7) hb); have n3_ := Aside0.mk (blk_below (g := gb316) (o := .cells #[.int .i64 t303, .int .i64 t304, .int .i64 t305, .int .i64 t306, .int .i64 t307, .int .i64 t308, .int .i64 t309, .int .i64 t310, .int .i64 t311, .int .i64 t312, .int .i64 t313, .int .i64 t314] 28 (0, 0)) (qA11_8) hb); have n4_ := Aside0.mk (blk_below (g := gb338) (o := .cells #[.int .i64 t325, .int .i64 t326, .int .i64 t327, .int .i64 t328, .int .i64 t329, .int .i64 t330, .int .i64 t331, .int .i64 t332, .int .i64 t333, .int .i64 t334, .int .i64 t335, .int .i64 t336] 28 (0, 0)) (qA11_1) hb); have n5_ := Aside0.mk (below_step (qA11_4) hb); clear HO297 HO319 BK293 BK316 BK338 HB; have HO297 := n0_; have HO319 := n1_; have BK293 := n2_; have BK316 := n3_; have BK338 := n4_; have HB := n5_; clear n0_ n1_ n2_ n3_ n4_ n5_; (try clear hb); (try clear hb2); (try clear hk); (try clear hi)))
    go_meet
    case rel => exact ⟨_, ((t337 != t315)), (by first | rfl | (simp; done) | (simp [*]; done)), H', ⟨by first | omega | exact Nat.le_refl _⟩, ⟨(qA11_26)⟩, ⟨(qA11_0)⟩, ⟨(qA11_6)⟩, ⟨(qA11_15)⟩, ⟨(qA11_4)⟩⟩
   ·replace c44 := Bool.eq_false_iff.mpr c44
    subst c44
    have H1 : (laws_FnExactWallsAt.j0 k l0 t317 true) = some r := by rw [if_neg (show ¬ (false = true) by decide)] at H; exact H
    clear H; have H := H1; clear H1
    have H' := Aside0.mk H
    clear H
    have hnb51 := NB338_293.out
    have hnc51 := NB293_338.out
    have hnb52 := NB338_316.out
    have hnc52 := NB316_338.out
    have hcz53_0 : w39.cell? ⟨gb338, 0, none⟩ = some (.int .i64 0) := (blk_cell BK338.out 0).trans rfl
    have hcz53_1 : w39.cell? ⟨gb338, 1, none⟩ = some (.int .i64 0) := (blk_cell BK338.out 1).trans rfl
    have hcz53_2 : w39.cell? ⟨gb338, 2, none⟩ = some (.int .i64 0) := (blk_cell BK338.out 2).trans rfl
    have hcz53_3 : w39.cell? ⟨gb338, 3, none⟩ = some (.int .i64 0) := (blk_cell BK338.out 3).trans rfl
    have hcz53_4 : w39.cell? ⟨gb338, 4, none⟩ = some (.int .i64 0) := (blk_cell BK338.out 4).trans rfl
    have hcz53_5 : w39.cell? ⟨gb338, 5, none⟩ = some (.int .i64 0) := (blk_cell BK338.out 5).trans rfl
    have hcz53_6 : w39.cell? ⟨gb338, 6, none⟩ = some (.int .i64 0) := (blk_cell BK338.out 6).trans rfl
    have hcz53_7 : w39.cell? ⟨gb338, 7, none⟩ = some (.int .i64 0) := (blk_cell BK338.out 7).trans rfl
    have hcz53_8 : w39.cell? ⟨gb338, 8, none⟩ = some (.int .i64 0) := (blk_cell BK338.out 8).trans rfl
    have hcz53_9 : w39.cell? ⟨gb338, 9, none⟩ = some (.int .i64 0) := (blk_cell BK338.out 9).trans rfl
    have hcz53_10 : w39.cell? ⟨gb338, 10, none⟩ = some (.int .i64 0) := (blk_cell BK338.out 10).trans rfl
    have hcz53_11 : w39.cell? ⟨gb338, 11, none⟩ = some (.int .i64 0) := (blk_cell BK338.out 11).trans rfl
    have hfz53_0 := blk_frozen BK338.out 0
    have hfz53_1 := blk_frozen BK338.out 1
    have hfz53_2 := blk_frozen BK338.out 2
    have hfz53_3 := blk_frozen BK338.out 3
    have hfz53_4 := blk_frozen BK338.out 4
    have hfz53_5 := blk_frozen BK338.out 5
    have hfz53_6 := blk_frozen BK338.out 6
    have hfz53_7 := blk_frozen BK338.out 7
    have hfz53_8 := blk_frozen BK338.out 8
    have hfz53_9 := blk_frozen BK338.out 9
    have hfz53_10 := blk_frozen BK338.out 10
    have hfz53_11 := blk_frozen BK338.out 11
    have hnb54 := NB316_293.out
    have hnc54 := NB293_316.out
    have hcz55_0 : w39.cell? ⟨gb316, 0, none⟩ = some (.int .i64 t303) := (blk_cell BK316.out 0).trans rfl
    have hcz55_1 : w39.cell? ⟨gb316, 1, none⟩ = some (.int .i64 t304) := (blk_cell BK316.out 1).trans rfl
    have hcz55_2 : w39.cell? ⟨gb316, 2, none⟩ = some (.int .i64 t305) := (blk_cell BK316.out 2).trans rfl
    have hcz55_3 : w39.cell? ⟨gb316, 3, none⟩ = some (.int .i64 t306) := (blk_cell BK316.out 3).trans rfl
    have hcz55_4 : w39.cell? ⟨gb316, 4, none⟩ = some (.int .i64 t307) := (blk_cell BK316.out 4).trans rfl
    have hcz55_5 : w39.cell? ⟨gb316, 5, none⟩ = some (.int .i64 t308) := (blk_cell BK316.out 5).trans rfl
    have hcz55_6 : w39.cell? ⟨gb316, 6, none⟩ = some (.int .i64 t309) := (blk_cell BK316.out 6).trans rfl
    have hcz55_7 : w39.cell? ⟨gb316, 7, none⟩ = some (.int .i64 t310) := (blk_cell BK316.out 7).trans rfl
    have hcz55_8 : w39.cell? ⟨gb316, 8, none⟩ = some (.int .i64 t311) := (blk_cell BK316.out 8).trans rfl
    have hcz55_9 : w39.cell? ⟨gb316, 9, none⟩ = some (.int .i64 t312) := (blk_cell BK316.out 9).trans rfl
    have hcz55_10 : w39.cell? ⟨gb316, 10, none⟩ = some (.int .i64 t313) := (blk_cell BK316.out 10).trans rfl
    have hcz55_11 : w39.cell? ⟨gb316, 11, none⟩ = some (.int .i64 t314) := (blk_cell BK316.out 11).trans rfl
    have hfz55_0 := blk_frozen BK316.out 0
    have hfz55_1 := blk_frozen BK316.out 1
    have hfz55_2 := blk_frozen BK316.out 2
    have hfz55_3 := blk_frozen BK316.out 3
    have hfz55_4 := blk_frozen BK316.out 4
    have hfz55_5 := blk_frozen BK316.out 5
    have hfz55_6 := blk_frozen BK316.out 6
    have hfz55_7 := blk_frozen BK316.out 7
    have hfz55_8 := blk_frozen BK316.out 8
    have hfz55_9 := blk_frozen BK316.out 9
    have hfz55_10 := blk_frozen BK316.out 10
    have hfz55_11 := blk_frozen BK316.out 11
    go_wp2_with (first | ((with_reducible refine gate_callee (f := 10) rfl ?_); refine goesL_ (some 35) rfl rfl Tryd.func10 (by kernel_rfl) rfl #[.agg #[.int .i64 t325, .int .i64 t326, .int .i64 t327, .int .i64 t328, .int .i64 t329, .int .i64 t330, .int .i64 t331, .int .i64 t332, .int .i64 t333, .int .i64 t334, .int .i64 t335, .int .i64 t336], .agg #[.int .i64 t303, .int .i64 t304, .int .i64 t305, .int .i64 t306, .int .i64 t307, .int .i64 t308, .int .i64 t309, .int .i64 t310, .int .i64 t311, .int .i64 t312, .int .i64 t313, .int .i64 t314]] rfl (qA11_5) ?_; (with_reducible refine (laws_eqShiftA4.calls t325 t326 t327 t328 t329 t330 t331 t332 t333 t334 t335 t336 t303 t304 t305 t306 t307 t308 t309 t310 t311 t312 t313 t314 false _ A43.out).mono ?_); rintro e w56 ⟨rfl, hb⟩; refine ⟨_, rfl, ?_⟩; have n0_ := Aside0.mk (Kd.R_below (qA11_11) hb); have n1_ := Aside0.mk (Kd.R_below (qA11_12) hb); have n2_ := Aside0.mk (blk_below (g := gb293) (o := .cells #[.int .i64 a1_0, .int .i64 a1_1, .int .i64 a1_2, .int .i64 a1_3, .int .i64 a1_4] 24 (0, 0)) (qA11_7) hb); have n3_ := Aside0.mk (blk_below (g := gb316) (o := .cells #[.int .i64 t303, .int .i64 t304, .int .i64 t305, .int .i64 t306, .int .i64 t307, .int .i64 t308, .int .i64 t309, .int .i64 t310, .int .i64 t311, .int .i64 t312, .int .i64 t313, .int .i64 t314] 28 (0, 0)) (qA11_8) hb); have n4_ := Aside0.mk (blk_below (g := gb338) (o := .cells #[.int .i64 t325, .int .i64 t326, .int .i64 t327, .int .i64 t328, .int .i64 t329, .int .i64 t330, .int .i64 t331, .int .i64 t332, .int .i64 t333, .int .i64 t334, .int .i64 t335, .int .i64 t336] 28 (0, 0)) (qA11_1) hb); have n5_ := Aside0.mk (below_step (qA11_4) hb); clear HO297 HO319 BK293 BK316 BK338 HB; have HO297 := n0_; have HO319 := n1_; have BK293 := n2_; have BK316 := n3_; have BK338 := n4_; have HB := n5_; clear n0_ n1_ n2_ n3_ n4_ n5_; (try clear hb); (try clear hb2); (try clear hk); (try clear hi)))
    go_meet
    case rel => exact ⟨_, (true), (by first | rfl | (simp; done) | (simp [*]; done)), H', ⟨by first | omega | exact Nat.le_refl _⟩, ⟨(qA11_26)⟩, ⟨(qA11_0)⟩, ⟨(qA11_6)⟩, ⟨(qA11_15)⟩, ⟨(qA11_4)⟩⟩
  case rest =>
   clear HC12
   try clear c1
   try clear p2
   try clear c3
   try clear c4
   try clear c5
   try clear c6
   try clear c7
   try clear c8
   try clear c9
   try clear c10
   try clear c34
   try clear c40
   try clear c41
   try clear c44
   try clear c45
   try clear c46
   try clear c48
   try clear c51
   try clear c52
   try clear c54
   try clear hcz35_0
   try clear hcz35_1
   try clear hcz35_2
   try clear hcz35_3
   try clear hcz35_4
   try clear hcz42_0
   try clear hcz42_1
   try clear hcz42_10
   try clear hcz42_11
   try clear hcz42_2
   try clear hcz42_3
   try clear hcz42_4
   try clear hcz42_5
   try clear hcz42_6
   try clear hcz42_7
   try clear hcz42_8
   try clear hcz42_9
   try clear hcz47_0
   try clear hcz47_1
   try clear hcz47_10
   try clear hcz47_11
   try clear hcz47_2
   try clear hcz47_3
   try clear hcz47_4
   try clear hcz47_5
   try clear hcz47_6
   try clear hcz47_7
   try clear hcz47_8
   try clear hcz47_9
   try clear hcz49_0
   try clear hcz49_1
   try clear hcz49_10
   try clear hcz49_11
   try clear hcz49_2
   try clear hcz49_3
   try clear hcz49_4
   try clear hcz49_5
   try clear hcz49_6
   try clear hcz49_7
   try clear hcz49_8
   try clear hcz49_9
   try clear hcz53_0
   try clear hcz53_1
   try clear hcz53_10
   try clear hcz53_11
   try clear hcz53_2
   try clear hcz53_3
   try clear hcz53_4
   try clear hcz53_5
   try clear hcz53_6
   try clear hcz53_7
   try clear hcz53_8
   try clear hcz53_9
   try clear hcz55_0
   try clear hcz55_1
   try clear hcz55_10
   try clear hcz55_11
   try clear hcz55_2
   try clear hcz55_3
   try clear hcz55_4
   try clear hcz55_5
   try clear hcz55_6
   try clear hcz55_7
   try clear hcz55_8
   try clear hcz55_9
   try clear hfz35_0
   try clear hfz35_1
   try clear hfz35_2
   try clear hfz35_3
   try clear hfz35_4
   try clear hfz42_0
   try clear hfz42_1
   try clear hfz42_10
   try clear hfz42_11
   try clear hfz42_2
   try clear hfz42_3
   try clear hfz42_4
   try clear hfz42_5
   try clear hfz42_6
   try clear hfz42_7
   try clear hfz42_8
   try clear hfz42_9
   try clear hfz47_0
   try clear hfz47_1
   try clear hfz47_10
   try clear hfz47_11
   try clear hfz47_2
   try clear hfz47_3
   try clear hfz47_4
   try clear hfz47_5
   try clear hfz47_6
   try clear hfz47_7
   try clear hfz47_8
   try clear hfz47_9
   try clear hfz49_0
   try clear hfz49_1
   try clear hfz49_10
   try clear hfz49_11
   try clear hfz49_2
   try clear hfz49_3
   try clear hfz49_4
   try clear hfz49_5
   try clear hfz49_6
   try clear hfz49_7
   try clear hfz49_8
   try clear hfz49_9
   try clear hfz53_0
   try clear hfz53_1
   try clear hfz53_10
   try clear hfz53_11
   try clear hfz53_2
   try clear hfz53_3
   try clear hfz53_4
   try clear hfz53_5
   try clear hfz53_6
   try clear hfz53_7
   try clear hfz53_8
   try clear hfz53_9
   try clear hfz55_0
   try clear hfz55_1
   try clear hfz55_10
   try clear hfz55_11
   try clear hfz55_2
   try clear hfz55_3
   try clear hfz55_4
   try clear hfz55_5
   try clear hfz55_6
   try clear hfz55_7
   try clear hfz55_8
   try clear hfz55_9
   obtain ⟨kq, x41_11, rfl, HA, HJ11, HO_8, BK293, BK316, BK338, HB⟩ := hcut
   cases kq with
   | zero => exact absurd HA.out (by simp [laws_FnExactWallsAt.j0])
   | succ kj11 =>
    have H := HA.out
    clear HA
    simp only [laws_FnExactWallsAt.j0] at H
    by_cases c57 : x41_11 = true
    ·subst c57
     have H1 : (some false) = some r := by rw [if_pos rfl] at H; exact H
     clear H; have H := H1; clear H1; obtain rfl := Option.some.inj H
     go_wp2
     go_ret
     exact ⟨(qA11_20), (qA11_4)⟩
    ·replace c57 := Bool.eq_false_iff.mpr c57
     subst c57
     have H1 : ((laws_toPassageS.f kj11 l0).bind fun t340 => ((laws_eqPassageS.f kj11 t317 t340).bind fun t343 => (if t343 = true then (some true) else (some false)))) = some r := by rw [if_neg (show ¬ (false = true) by decide)] at H; exact H
     clear H; have H := H1; clear H1; replace H := Option.bind_eq_some_iff.mp H; obtain ⟨t340, A580, H⟩ := H
     try dsimp only at H
     have A58 := Aside0.mk A580; clear A580; replace H := Option.bind_eq_some_iff.mp H; obtain ⟨t343, A590, H⟩ := H
     try dsimp only at H
     have A59 := Aside0.mk A590; clear A590
     by_cases c60 : t343 = true
     ·subst c60
      have H1 : (some true) = some r := by rw [if_pos rfl] at H; exact H
      clear H; have H := H1; clear H1; obtain rfl := Option.some.inj H
      go_wp2_with (first | ((with_reducible refine gate_callee (f := 7) rfl ?_); refine goesL_ (some 44) rfl rfl Tryd.func7 (by kernel_rfl) rfl #[.slice A0 l0.length c0] rfl (qA11_5) ?_; (with_reducible refine (laws_toPassageS.calls kj11 _ _ l0 t340 _ ?side1 ?side2 A58.out).mono ?_); (case side1 => exact (qA11_13)); (case side2 => exact HC0.out); rintro e w61 ⟨v341, rfl, ho0, hb⟩; refine ⟨_, rfl, ?_⟩; have n0_ := Aside0.mk (Kd.R_elder' (qA11_17) (Kd.R_base ho0) hb); have n1_ := Aside0.mk (Kd.R_lower (Kd.R_new' ho0 (Kd.R_lt (qA11_17))) (below_size (qA11_4))); have n2_ := Aside0.mk (blk_below (g := gb293) (o := .cells #[.int .i64 a1_0, .int .i64 a1_1, .int .i64 a1_2, .int .i64 a1_3, .int .i64 a1_4] 24 (0, 0)) (qA11_0) hb); have n3_ := Aside0.mk (blk_below (g := gb316) (o := .cells #[.int .i64 t303, .int .i64 t304, .int .i64 t305, .int .i64 t306, .int .i64 t307, .int .i64 t308, .int .i64 t309, .int .i64 t310, .int .i64 t311, .int .i64 t312, .int .i64 t313, .int .i64 t314] 28 (0, 0)) (qA11_6) hb); have n4_ := Aside0.mk (blk_below (g := gb338) (o := .cells #[.int .i64 t325, .int .i64 t326, .int .i64 t327, .int .i64 t328, .int .i64 t329, .int .i64 t330, .int .i64 t331, .int .i64 t332, .int .i64 t333, .int .i64 t334, .int .i64 t335, .int .i64 t336] 28 (0, 0)) (qA11_15) hb); have n5_ := Aside0.mk (below_step (qA11_4) hb); clear HO_8 BK293 BK316 BK338 HB; have HO_8 := n0_; have HO342 := n1_; have BK293 := n2_; have BK316 := n3_; have BK338 := n4_; have HB := n5_; clear n0_ n1_ n2_ n3_ n4_ n5_; (try clear hb); (try clear hb2); (try clear hk); (try clear hi); (try clear ho0); obtain ⟨Ao62, co62, eo62⟩ := Kd.R_slice HO342.out; subst eo62) | ((with_reducible refine gate_callee (f := 11) rfl ?_); refine goesL_ (some 45) rfl rfl Tryd.func11 (by kernel_rfl) rfl #[.slice Ao37 t317.length co37, .slice Ao62 t340.length co62] rfl (qA11_5) ?_; (with_reducible refine (laws_eqPassageS.calls kj11 _ _ t317 _ _ t340 true _ ?side1 ?side2 ?side3 ?side4 A59.out).mono ?_); (case side1 => exact (qA11_25)); (case side2 => exact (by exact (Kd.R_reads' HO_8.out).2.1)); (case side3 => exact (qA11_24)); (case side4 => exact (by exact (Kd.R_reads' HO342.out).2.1)); rintro e w63 ⟨rfl, hb⟩; refine ⟨_, rfl, ?_⟩; have n0_ := Aside0.mk (Kd.R_below (qA11_17) hb); have n1_ := Aside0.mk (Kd.R_below (qA11_27) hb); have n2_ := Aside0.mk (blk_below (g := gb293) (o := .cells #[.int .i64 a1_0, .int .i64 a1_1, .int .i64 a1_2, .int .i64 a1_3, .int .i64 a1_4] 24 (0, 0)) (qA11_0) hb); have n3_ := Aside0.mk (blk_below (g := gb316) (o := .cells #[.int .i64 t303, .int .i64 t304, .int .i64 t305, .int .i64 t306, .int .i64 t307, .int .i64 t308, .int .i64 t309, .int .i64 t310, .int .i64 t311, .int .i64 t312, .int .i64 t313, .int .i64 t314] 28 (0, 0)) (qA11_6) hb); have n4_ := Aside0.mk (blk_below (g := gb338) (o := .cells #[.int .i64 t325, .int .i64 t326, .int .i64 t327, .int .i64 t328, .int .i64 t329, .int .i64 t330, .int .i64 t331, .int .i64 t332, .int .i64 t333, .int .i64 t334, .int .i64 t335, .int .i64 t336] 28 (0, 0)) (qA11_15) hb); have n5_ := Aside0.mk (below_step (qA11_4) hb); clear HO_8 HO342 BK293 BK316 BK338 HB; have HO_8 := n0_; have HO342 := n1_; have BK293 := n2_; have BK316 := n3_; have BK338 := n4_; have HB := n5_; clear n0_ n1_ n2_ n3_ n4_ n5_; (try clear hb); (try clear hb2); (try clear hk); (try clear hi)))
      go_ret
      exact ⟨(qA11_20), (qA11_4)⟩
     ·replace c60 := Bool.eq_false_iff.mpr c60
      subst c60
      have H1 : (some false) = some r := by rw [if_neg (show ¬ (false = true) by decide)] at H; exact H
      clear H; have H := H1; clear H1; obtain rfl := Option.some.inj H
      go_wp2_with (first | ((with_reducible refine gate_callee (f := 7) rfl ?_); refine goesL_ (some 44) rfl rfl Tryd.func7 (by kernel_rfl) rfl #[.slice A0 l0.length c0] rfl (qA11_5) ?_; (with_reducible refine (laws_toPassageS.calls kj11 _ _ l0 t340 _ ?side1 ?side2 A58.out).mono ?_); (case side1 => exact (qA11_13)); (case side2 => exact HC0.out); rintro e w64 ⟨v341, rfl, ho0, hb⟩; refine ⟨_, rfl, ?_⟩; have n0_ := Aside0.mk (Kd.R_elder' (qA11_17) (Kd.R_base ho0) hb); have n1_ := Aside0.mk (Kd.R_lower (Kd.R_new' ho0 (Kd.R_lt (qA11_17))) (below_size (qA11_4))); have n2_ := Aside0.mk (blk_below (g := gb293) (o := .cells #[.int .i64 a1_0, .int .i64 a1_1, .int .i64 a1_2, .int .i64 a1_3, .int .i64 a1_4] 24 (0, 0)) (qA11_0) hb); have n3_ := Aside0.mk (blk_below (g := gb316) (o := .cells #[.int .i64 t303, .int .i64 t304, .int .i64 t305, .int .i64 t306, .int .i64 t307, .int .i64 t308, .int .i64 t309, .int .i64 t310, .int .i64 t311, .int .i64 t312, .int .i64 t313, .int .i64 t314] 28 (0, 0)) (qA11_6) hb); have n4_ := Aside0.mk (blk_below (g := gb338) (o := .cells #[.int .i64 t325, .int .i64 t326, .int .i64 t327, .int .i64 t328, .int .i64 t329, .int .i64 t330, .int .i64 t331, .int .i64 t332, .int .i64 t333, .int .i64 t334, .int .i64 t335, .int .i64 t336] 28 (0, 0)) (qA11_15) hb); have n5_ := Aside0.mk (below_step (qA11_4) hb); clear HO_8 BK293 BK316 BK338 HB; have HO_8 := n0_; have HO342 := n1_; have BK293 := n2_; have BK316 := n3_; have BK338 := n4_; have HB := n5_; clear n0_ n1_ n2_ n3_ n4_ n5_; (try clear hb); (try clear hb2); (try clear hk); (try clear hi); (try clear ho0); obtain ⟨Ao65, co65, eo65⟩ := Kd.R_slice HO342.out; subst eo65) | ((with_reducible refine gate_callee (f := 11) rfl ?_); refine goesL_ (some 45) rfl rfl Tryd.func11 (by kernel_rfl) rfl #[.slice Ao37 t317.length co37, .slice Ao65 t340.length co65] rfl (qA11_5) ?_; (with_reducible refine (laws_eqPassageS.calls kj11 _ _ t317 _ _ t340 false _ ?side1 ?side2 ?side3 ?side4 A59.out).mono ?_); (case side1 => exact (qA11_25)); (case side2 => exact (by exact (Kd.R_reads' HO_8.out).2.1)); (case side3 => exact (qA11_24)); (case side4 => exact (by exact (Kd.R_reads' HO342.out).2.1)); rintro e w66 ⟨rfl, hb⟩; refine ⟨_, rfl, ?_⟩; have n0_ := Aside0.mk (Kd.R_below (qA11_17) hb); have n1_ := Aside0.mk (Kd.R_below (qA11_27) hb); have n2_ := Aside0.mk (blk_below (g := gb293) (o := .cells #[.int .i64 a1_0, .int .i64 a1_1, .int .i64 a1_2, .int .i64 a1_3, .int .i64 a1_4] 24 (0, 0)) (qA11_0) hb); have n3_ := Aside0.mk (blk_below (g := gb316) (o := .cells #[.int .i64 t303, .int .i64 t304, .int .i64 t305, .int .i64 t306, .int .i64 t307, .int .i64 t308, .int .i64 t309, .int .i64 t310, .int .i64 t311, .int .i64 t312, .int .i64 t313, .int .i64 t314] 28 (0, 0)) (qA11_6) hb); have n4_ := Aside0.mk (blk_below (g := gb338) (o := .cells #[.int .i64 t325, .int .i64 t326, .int .i64 t327, .int .i64 t328, .int .i64 t329, .int .i64 t330, .int .i64 t331, .int .i64 t332, .int .i64 t333, .int .i64 t334, .int .i64 t335, .int .i64 t336] 28 (0, 0)) (qA11_15) hb); have n5_ := Aside0.mk (below_step (qA11_4) hb); clear HO_8 HO342 BK293 BK316 BK338 HB; have HO_8 := n0_; have HO342 := n1_; have BK293 := n2_; have BK316 := n3_; have BK338 := n4_; have HB := n5_; clear n0_ n1_ n2_ n3_ n4_ n5_; (try clear hb); (try clear hb2); (try clear hk); (try clear hi)))
      go_ret
      exact ⟨(qA11_20), (qA11_4)⟩

end Go.Proofs.YtfbkhdlhkfbfcaaDoor.MA
