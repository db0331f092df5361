/- The law FnRoutes's pure statement. -/
import Derived.Test.YtoljdjgndogegaaPAllFnRoutes
import Derived.Test.YtoljdjgndogegaaMRx13
import Derived.Test.YtoljdjgndogegaaMRx4
import Derived.Test.YtoljdjgndogegaaMRx11
import Derived.Test.YtoljdjgndogegaaMRx1
import Derived.Test.YtoljdjgndogegaaMRx8
namespace Go.Proofs.Ytoljdjgndogegaa.Pure
open Go.RowKit Go.Proofs.Ytoljdjgndogegaa.MR Go.Proofs.YtoljdjgndogegaaW.PrintWords Go.Proofs.YtoljdjgndogegaaW.PrintLast
set_option linter.unusedVariables false
set_option linter.unusedSimpArgs false
theorem dr_best {l : List Int} (hb : Bytes l) : Dr (fun k => spec_DrawBestRoute.f k l) (fun r => r.1.length ≤ 13 ∧ r.2.1.length ≤ 15) := by
 simp only [spec_DrawBestRoute.f]
 refine Dr.bind (dr_wide hb (by omega) (by omega)) (fun r hr => ?_)
 refine dr_station hb (by omega) (by omega) (fun v j t g0 g1 => ?_)
 dsimp only
 refine dr_station hb (by omega) (by omega) (fun v2 j2 t2 g2 g3 => ?_)
 dsimp only
 refine Dr.among hb (by omega) (by omega) (by decide) (by decide) (fun v3 j3 t3 g4 g5 _ => ?_)
 exact Dr.now _ ⟨hr.1, hr.2.1⟩
theorem dr_route0 {l : List Int} (hb : Bytes l) (xs : List S58) (ws : List Int) : ∀ (d : Nat) (r : List Int) (i s : Int), r.length + d ≤ 10 → 0 ≤ i → i + 2 * d ≤ 980000000 → Dr (fun k => spec_DrawRouteWidth.l0 k xs ws r (d : Int) l i s) (fun q => q.1 = xs ∧ q.2.1 = ws ∧ q.2.2.length ≤ 10) := by
 intro d
 induction d with
 | zero =>
  intro r i s hd h0 h1
  exact Dr.step (fun k => by rw [spec_DrawRouteWidth.l0]) (Dr.ite (fun c => by omega) (fun _ => Dr.now _ ⟨rfl, rfl, by dsimp only; omega⟩))
 | succ d ih =>
  intro r i s hd h0 h1
  refine Dr.step (fun k => by rw [spec_DrawRouteWidth.l0]) (Dr.ite (fun _ => ?_) (fun c => by omega))
  refine dr_station hb (by omega) (by omega) (fun v j t g0 g1 => ?_)
  dsimp only
  rw [wrap_pred d (by omega)]
  exact Dr.ite (fun _ => ih _ j t (by rw [snoc_len]; omega) (by omega) (by omega)) (fun c => by omega)
theorem dr_route {l : List Int} (hb : Bytes l) : Dr (fun k => spec_DrawRouteWidth.f k l) (fun q => q.1.length ≤ 13 ∧ q.2.1.length ≤ 15 ∧ q.2.2.length ≤ 10) := by
 simp only [spec_DrawRouteWidth.f]
 refine Dr.bind (dr_wide hb (by omega) (by omega)) (fun r hr => ?_)
 refine Dr.pick hb (by omega) (by omega) (by omega) (fun v j t g0 g1 g2 g3 => ?_)
 dsimp only
 refine Dr.pick hb (by omega) (by omega) (by omega) (fun v2 j2 t2 g4 g5 g6 g7 => ?_)
 dsimp only
 refine Dr.among hb (by omega) (by omega) (by decide) (by decide) (fun v3 j3 t3 g8 g9 _ => ?_)
 dsimp only
 refine Dr.bind (Q := fun q => q.1.length ≤ 10) ⟨_, specBR_ev r.1 r.2.1 v v2 v3 (by omega) (by omega), routeAns_len _ _ _ _ _⟩ (fun q hq => ?_)
 have hj : ∀ (b : Bool) (i s : Int), 0 ≤ i → i ≤ 100000 → Dr (fun k => spec_DrawRouteWidth.j0 k r.1 r.2.1 q.1 b l i s) (fun q => q.1.length ≤ 13 ∧ q.2.1.length ≤ 15 ∧ q.2.2.length ≤ 10) := fun b i s h0 h1 => by
  refine Dr.step (fun k => by rw [spec_DrawRouteWidth.j0]) (Dr.ite (fun _ => Dr.now _ ⟨hr.1, hr.2.1, hq⟩) (fun _ => ?_))
  refine Dr.pick hb (by omega) (by omega) (by omega) (fun v4 j4 t4 g10 g11 g12 g13 => ?_)
  dsimp only
  obtain ⟨n, hn⟩ : ∃ n : Nat, v4 = (n : Int) := ⟨v4.toNat, by omega⟩
  rw [hn]
  exact (dr_route0 hb r.1 r.2.1 n [] j4 t4 (by simp; omega) (by omega) (by omega)).mono (fun z hz => ⟨by rw [hz.1]; exact hr.1, by rw [hz.2.1]; exact hr.2.1, hz.2.2⟩)
 refine Dr.ite (fun _ => ?_) (fun _ => hj _ _ _ (by omega) (by omega))
 refine Dr.one hb (by omega) (by omega) (by omega) (fun b j4 t4 g10 g11 => ?_)
 exact hj _ _ _ (by dsimp only; omega) (by dsimp only; omega)
theorem routes_j4 {l : List Int} (hb : Bytes l) : Ev (fun k => laws_FnRoutes.j4 k l) true := by
 obtain ⟨⟨xs, ws, r⟩, h1, h2, h3, h4⟩ := dr_route hb
 simp only at h2 h3 h4
 refine Ev.step (fun k => by rw [laws_FnRoutes.j4]) ?_
 refine Ev.bind h1 (Ev.bind (implRW_ev xs ws r (by omega) (by omega)) (Ev.bind (specRW_ev xs ws r (by omega) (by omega) (by omega)) (Ev.ite_pos rfl ?_)))
 rw [show ((routeWidthAns xs ws r).2 != (routeWidthAns xs ws r).2) = false by simp]
 refine Ev.step (fun k => by rw [laws_FnRoutes.j5]) (Ev.ite_neg (by decide) ?_)
 refine Ev.bind (implRL_ev xs ws r (by omega) (by omega)) (Ev.bind (specRL_ev xs ws r (by omega) (by omega) (by omega)) (Ev.ite_pos rfl (Ev.ite_neg (by simp) ?_)))
 have e : ((routeLengthAns xs ws r).2 != (routeWidthAns xs ws r).2) = false := by
  unfold routeLengthAns routeWidthAns
  split <;> rfl
 rw [e]
 refine Ev.step (fun k => by rw [laws_FnRoutes.j6]) (Ev.ite_neg (by decide) ?_)
 by_cases hr : isRoute xs ws r = true
 ·have ew : routeWidthAns xs ws r = ((sizeFrom xs ws r (r.length - 1) 1 200 0).1, true) := if_pos hr
  have hp := pth_of hr
  have ha := asked_of hr
  have hne := hp.ne
  rw [ew]
  have hl : rd r (wrap64 ((r.length : Int) - 1)) = lastOf r := lastOf_eq hne (by omega)
  have hw : wrap64 ((r.length : Int) - 1) = (r.length : Int) - 1 := wrap_id (by omega) (by omega)
  have h0 : rd r 0 = r.getD 0 0 := rd_nat r 0
  dsimp only
  refine Ev.ite_pos rfl (Ev.ite_pos (by omega) (Ev.ite_pos (by omega) (Ev.ite_pos (by omega) ?_)))
  rw [hl, h0]
  refine Ev.bind (implGreat_ev xs ws _ _ (by omega)) ?_
  have eg : greatAns xs ws (r.getD 0 0) (lastOf r) = (greatestDown xs ws (r.getD 0 0) (lastOf r) 201, true) := if_pos ha
  rw [eg]
  refine Ev.ite_pos rfl ?_
  rw [decide_eq_true (route_le hr ha)]
  exact Ev.now _
 ·have ew : (routeWidthAns xs ws r).2 = false := by
   unfold routeWidthAns
   rw [if_neg hr]
  rw [ew]
  exact Ev.ite_neg (by decide) (Ev.now _)
theorem FnRoutes (l0 : List Int) (hm0 : l0.length ≤ 9223372036854775807) (hw0 : ∀ x ∈ l0, (Lit.int .u8 x).wf = true) : ∃ k, laws_FnRoutes.f k l0 = some true := by
 apply Ev.rounds
 have hb := bytes_of hw0
 simp only [laws_FnRoutes.f, laws_vBig.f, Option.bind_some]
 by_cases hbig : (l0.length : Int) > 65536
 ·exact Ev.ite_pos (decide_eq_true hbig) (Ev.now true)
 refine Ev.ite_neg (by simpa using hbig) ?_
 obtain ⟨⟨xs, ws, a, b, wd⟩, h1, h2, h3⟩ := dr_best hb
 simp only at h2 h3
 have hlen := routeAns_len xs ws a b wd
 refine Ev.bind h1 (Ev.bind (implBR_ev xs ws a b wd (by omega)) (Ev.bind (specBR_ev xs ws a b wd (by omega) (by omega)) (Ev.ite_neg (by simp) ?_)))
 refine Ev.bind (vInts_ev _ (by omega)) (Ev.ite_pos rfl ?_)
 refine Ev.bind (areWidths_ev xs ws (by omega)) ?_
 simp only [spec_AreWidths.f]
 refine Ev.bind (a := okWidths xs ws) (Ev.bind (l15Good_ev xs ws (by omega) (by omega)) (Ev.now _)) ?_
 rw [show (okWidths xs ws != okWidths xs ws) = false by simp]
 refine Ev.step (fun k => by rw [laws_FnRoutes.j0]) (Ev.ite_neg (by decide) ?_)
 refine Ev.bind (implGreat_ev xs ws a b (by omega)) (Ev.bind (specGreat_ev xs ws a b (by omega) (by omega)) (Ev.ite_pos rfl ?_))
 rw [show ((greatAns xs ws a b).2 != (greatAns xs ws a b).2) = false by simp]
 refine Ev.step (fun k => by rw [laws_FnRoutes.j1]) (Ev.ite_neg (by decide) ?_)
 -- the rest, once the answer's truth is known
 have rest : ∀ q : Bool, q = false → Ev (fun k => laws_FnRoutes.j2 k l0 xs ws a b wd (routeAns xs ws a b wd).1 (routeAns xs ws a b wd).2 (greatAns xs ws a b).1 q) true := by
  rintro q rfl
  refine Ev.step (fun k => by rw [laws_FnRoutes.j2]) (Ev.ite_neg (by decide) ?_)
  by_cases hok : (routeAns xs ws a b wd).2 = true
  ·have hc : okAsked xs ws a b = true ∧ (0 ≤ wd ∧ wd ≤ 200) := by
    by_cases hh : okAsked xs ws a b = true ∧ (0 ≤ wd ∧ wd ≤ 200)
    ·exact hh
    ·have : (routeAns xs ws a b wd).2 = false := by
      unfold routeAns
      rw [if_neg hh]
     rw [this] at hok
     cases hok
   obtain ⟨-, hb2⟩ := best_says hc.1 hc.2
   obtain ⟨len, k1, k2, k3, k4, -⟩ := hb2 hok
   obtain ⟨c1, c2, c3⟩ := okAsked_says hc.1
   have hl := okWidths_legs c1
   have hir := isRoute_of c1 k2
   have ew : routeWidthAns xs ws (routeAns xs ws a b wd).1 = ((sizeFrom xs ws (routeAns xs ws a b wd).1 ((routeAns xs ws a b wd).1.length - 1) 1 200 0).1, true) := if_pos hir
   have el : routeLengthAns xs ws (routeAns xs ws a b wd).1 = ((sizeFrom xs ws (routeAns xs ws a b wd).1 ((routeAns xs ws a b wd).1.length - 1) 1 200 0).2, true) := if_pos hir
   have eg : greatAns xs ws a b = (greatestDown xs ws a b 201, true) := if_pos hc.1
   have hne := k2.ne
   have hwide : wd ≤ (sizeFrom xs ws (routeAns xs ws a b wd).1 ((routeAns xs ws a b wd).1.length - 1) 1 200 0).1 := (size_fst ((routeAns xs ws a b wd).1.length - 1) 1 200 0).2.2 wd hc.2.2 (fun j j1 j2 => (k2.via j (by omega) (by omega)).2)
   have hmost : (sizeFrom xs ws (routeAns xs ws a b wd).1 ((routeAns xs ws a b wd).1.length - 1) 1 200 0).1 ≤ greatestDown xs ws a b 201 := by
    have := route_le hir (by rw [k3, k4]; exact hc.1)
    rwa [k3, k4] at this
   rw [hok]
   refine Ev.ite_pos rfl (Ev.bind (implRW_ev xs ws _ (by omega) (by omega)) (Ev.bind (implRL_ev xs ws _ (by omega) (by omega)) ?_))
   rw [ew, el, eg, k1.sz]
   have hlast : rd (routeAns xs ws a b wd).1 (wrap64 (((routeAns xs ws a b wd).1.length : Int) - 1)) = b := by rw [lastOf_eq hne (by omega), k4]
   have hfirst : rd (routeAns xs ws a b wd).1 0 = a := (rd_nat _ 0).trans k3
   have hw : wrap64 (((routeAns xs ws a b wd).1.length : Int) - 1) = ((routeAns xs ws a b wd).1.length : Int) - 1 := wrap_id (by omega) (by omega)
   refine Ev.ite_pos rfl (Ev.ite_neg (Int.not_lt.2 hwide) (Ev.ite_neg (Int.not_lt.2 hmost) (Ev.ite_pos rfl (Ev.ite_pos (by omega) (Ev.ite_pos hfirst (Ev.ite_pos (by omega) (Ev.ite_pos (by omega) ?_)))))))
   rw [hlast, show (b != b) = false by simp]
   refine Ev.step (fun k => by rw [laws_FnRoutes.j3]) (Ev.ite_neg (by decide) ?_)
   refine Ev.bind (implBR_ev xs ws a b 0 (by omega)) ?_
   obtain ⟨-, hb3⟩ := best_says (wd := 0) hc.1 ⟨by omega, by omega⟩
   have hlen0 := routeAns_len xs ws a b 0
   by_cases hok0 : (routeAns xs ws a b 0).2 = true
   ·obtain ⟨len0, m1, m2, m3, m4, m5⟩ := hb3 hok0
    have hir0 := isRoute_of c1 m2
    have el0 : routeLengthAns xs ws (routeAns xs ws a b 0).1 = ((sizeFrom xs ws (routeAns xs ws a b 0).1 ((routeAns xs ws a b 0).1.length - 1) 1 200 0).2, true) := if_pos hir0
    have hle := m5 _ _ k1 ⟨k2.ne, k2.nod, k2.inn, fun j j1 j2 => ⟨(k2.via j j1 j2).1, Int.le_trans hc.2.1 (k2.via j j1 j2).2⟩⟩ k3 k4
    rw [hok0]
    refine Ev.ite_pos rfl (Ev.bind (implRL_ev xs ws _ (by omega) (by omega)) ?_)
    rw [el0, m1.sz]
    exact Ev.ite_pos rfl (Ev.ite_neg (Int.not_lt.2 hle) (routes_j4 hb))
   ·rw [Bool.eq_false_iff.2 hok0]
    exact Ev.ite_neg (by decide) (routes_j4 hb)
  ·rw [Bool.eq_false_iff.2 hok]
   exact Ev.ite_neg (by decide) (routes_j4 hb)
 by_cases hask : okAsked xs ws a b = true
 ·have eg : greatAns xs ws a b = (greatestDown xs ws a b 201, true) := if_pos hask
  have hrest := rest
  rw [eg] at hrest ⊢
  refine Ev.ite_pos rfl ?_
  by_cases w0 : wd ≥ 0
  ·refine Ev.ite_pos w0 ?_
   by_cases w1 : wd ≤ 200
   ·refine Ev.ite_pos w1 (hrest _ ?_)
    obtain ⟨hb1, -⟩ := best_says hask ⟨w0, w1⟩
    obtain ⟨c1, c2, c3⟩ := okAsked_says hask
    have hgi := great_iff ws (okWidths_legs c1) c2 c3 201 wd w0 (by omega)
    have : ((routeAns xs ws a b wd).2 = true) ↔ (greatestDown xs ws a b 201 ≥ wd) := hb1.trans hgi.symm
    cases hr : (routeAns xs ws a b wd).2 with
    | true => rw [decide_eq_true (this.1 hr)]; rfl
    | false => rw [decide_eq_false (fun hh => by rw [this.2 hh] at hr; cases hr)]; rfl
   ·exact Ev.ite_neg w1 (hrest _ rfl)
  ·exact Ev.ite_neg w0 (hrest _ rfl)
 ·have eg : (greatAns xs ws a b).2 = false := by
   unfold greatAns
   rw [if_neg hask]
  rw [eg]
  exact Ev.ite_neg (by decide) (rest _ rfl)
end Go.Proofs.Ytoljdjgndogegaa.Pure
