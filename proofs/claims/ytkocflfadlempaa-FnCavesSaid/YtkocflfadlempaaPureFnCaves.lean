/- The law FnCaves's pure statement. -/
import Derived.Test.YtkocflfadlempaaPAllFnCaves
import Derived.Test.YtkocflfadlempaaMKx18
import Derived.Test.YtkocflfadlempaaMKx6
import Derived.Test.YtkocflfadlempaaMKx9
import Derived.Test.YtkocflfadlempaaMKx13
import Derived.Test.YtkocflfadlempaaMKx15
import Derived.Test.YtkocflfadlempaaMKx0
namespace Go.Proofs.Ytkocflfadlempaa.Pure
open Go.RowKit Go.Proofs.Ytkocflfadlempaa.MK Go.Proofs.YtkocflfadlempaaW.PrintWords Go.Proofs.YtkocflfadlempaaW.PrintLast
set_option linter.unusedVariables false
set_option linter.unusedSimpArgs false
theorem dr_stationC {α : Type} {l : List Int} (hb : Bytes l) {i s : Int} {f : Nat → Int × Int × Int → Option α} {P : α → Prop} (h0 : 0 ≤ i) (h1 : i ≤ 999999990) (k : ∀ v j t, i ≤ j → j ≤ i + 2 → Dr (fun m => f m (v, j, t)) P) : Dr (fun m => (spec_l1Cur_stationOf.f l i s).bind (f m)) P := by
 obtain ⟨v, j, t, e, g0, g1, _⟩ := cur_among (s := s) hb [0, 0, 1, 1, 2, 2, 3, 4, 5, 7, 8, (-1)] h0 h1 (by decide) (by decide)
 refine Dr.bindc (a := (v, j, t)) ?_ (k v j t g0 g1)
 simp only [spec_l1Cur_stationOf.f, e, Option.bind_some]
theorem caves_j6 {l : List Int} (hb : Bytes l) : Ev (fun k => laws_FnCaves.j6 k l false) true := by
 refine Ev.step (fun k => by rw [laws_FnCaves.j6]) (Ev.ite_neg (by decide) ?_)
 have hd : Dr (fun k => spec_DrawCaveLength.f k l) (fun r => r.1.length ≤ 13) := by
  simp only [spec_DrawCaveLength.f]
  refine Dr.bind (dr_caves hb (by omega) (by omega)) (fun r hr => ?_)
  exact dr_stationC hb (by omega) (by omega) (fun v j t _ _ => Dr.now _ hr.1)
 obtain ⟨⟨xs, a⟩, h1, h2⟩ := hd
 simp only at h2
 refine Ev.bind h1 (Ev.bind (implCaveLength_ev xs a (by omega)) (Ev.bind (specCaveLength_ev xs a (by omega)) (Ev.ite_pos rfl ?_)))
 rw [show ((caveAns xs a).2 == (caveAns xs a).2) = true by simp]
 exact Ev.now _
theorem caves_l1 {l : List Int} (hb : Bytes l) {x : List S72} (ts : List S45) (hl : okLegs x = true ∨ ts = []) (hm : x.length ≤ 13) (ht : ts.length ≤ 64) (hp : ∀ p ∈ ts, 0 ≤ p.f0 ∧ p.f0 < p.f1 ∧ p.f1 ≤ 7 ∧ p.f1 ∈ caveOf x p.f0) : ∀ d i, i + d = ts.length → Ev (fun k => laws_FnCaves.l1 k l x ts (i : Int)) true := by
 intro d
 induction d with
 | zero =>
  intro i hi
  refine Ev.step (fun k => by rw [laws_FnCaves.l1]) (Ev.ite_neg (by omega) ?_)
  have hd : Dr (fun k => spec_DrawWouldConnect.f k l) (fun r => r.1.length ≤ 13) := by
   simp only [spec_DrawWouldConnect.f]
   refine Dr.bind (dr_caves hb (by omega) (by omega)) (fun r hr => ?_)
   refine dr_stationC hb (by omega) (by omega) (fun v j t _ _ => ?_)
   exact dr_stationC hb (by dsimp only; omega) (by dsimp only; omega) (fun v j t _ _ => Dr.now _ hr.1)
  obtain ⟨⟨y, a, b⟩, h1, h2⟩ := hd
  simp only at h2
  refine Ev.bind h1 (Ev.bind (implConnect_ev y a b (by omega)) (Ev.bind (specConnect_ev y a b (by omega)) (Ev.ite_pos rfl ?_)))
  rw [show ((connectAns y a b).2 != (connectAns y a b).2) = false by simp]
  exact caves_j6 hb
 | succ d ih =>
  intro i hi
  have hil : i < ts.length := by omega
  have hl : okLegs x = true := by
   rcases hl with h | h
   ·exact h
   ·rw [h] at hil; simp at hil
  have hx := hp ts[i] (List.getElem_mem hil)
  have e : rd_T45 ts (i : Int) = ts[i] := by simp [rd_T45, List.getD_eq_getElem?_getD, List.getElem?_eq_getElem hil]
  have hen : okEnts [ts[i].f0] = true := by
   have h7 : 0 ≤ ts[i].f0 ∧ ts[i].f0 ≤ 7 := by omega
   simp [okEnts, rises, risesAt, List.range', h7]
  obtain ⟨st, hd, hv⟩ := l17Steps_some hl hen
  have hlen := hd.len
  have h1 : 1 ≤ rd st ts[i].f1 := by
   obtain ⟨n, hn⟩ := cave_dd hx.2.2.2
   have h7 := dd_near hl (a := ts[i].f0) (by omega) (by omega) hn
   rcases hd.at_ ts[i].f1 (by omega) (by omega) with ⟨m, _, e, hm⟩ | ⟨hno, _⟩
   ·cases m with
    | zero =>
     have : ts[i].f1 ∈ [ts[i].f0] := hm.1
     simp at this
     omega
    | succ m => omega
   ·exact absurd (h7.mono (by omega)) hno
  refine Ev.step (fun k => by rw [laws_FnCaves.l1]) (Ev.ite_pos (by omega) (Ev.ite_pos (by omega) ?_))
  rw [e]
  refine Ev.bind (a := (st, true)) ?_ ?_
  ·simp only [spec_StepsFrom.f]
   refine Ev.bind (asked_ev x [ts[i].f0] (by omega) (by simp)) (Ev.ite_pos (by simp [hl, hen]) (Ev.bind hv (Ev.now _)))
  refine Ev.ite_pos rfl (Ev.ite_neg (by omega) (Ev.ite_pos (by omega) (Ev.ite_pos (by dsimp only; omega) (Ev.ite_neg (by dsimp only; omega) ?_))))
  rw [wrap_up hil (by omega)]
  exact ih (i + 1) (by omega)
theorem caves_j2 {l : List Int} (hb : Bytes l) : Ev (fun k => laws_FnCaves.j2 k l) true := by
 have hd : Dr (fun k => spec_DrawThroughTrips.f k l) (fun r => r.1.length ≤ 13 ∧ r.2.length ≤ 8) := by
  simp only [spec_DrawThroughTrips.f]
  refine Dr.bind (dr_caves hb (by omega) (by omega)) (fun r hr => ?_)
  exact Dr.bind (dr_ents hb (by omega) (by omega)) (fun q hq => Dr.now _ ⟨hr.1, hq.1⟩)
 obtain ⟨⟨x, e⟩, h1, h2, h3⟩ := hd
 simp only at h2 h3
 refine Ev.step (fun k => by rw [laws_FnCaves.j2]) ?_
 refine Ev.bind h1 (Ev.bind (implTT_ev x e (by omega) (by omega)) (Ev.bind (specTT_ev x e (by omega) (by omega)) (Ev.ite_neg (by simp) ?_)))
 have h64 := throughAns_len x e
 refine Ev.bind (vPairs_ev _ (by omega)) ?_
 refine Ev.step (fun k => by rw [laws_FnCaves.j3]) (Ev.ite_neg (by decide) ?_)
 have e2 : (withoutAns x e).2 = (throughAns x e).2 := by
  unfold withoutAns throughAns
  split <;> rfl
 have hw := withoutAns_len x e
 refine Ev.bind (implCW_ev x e (by omega) (by omega)) (Ev.bind (specCW_ev x e (by omega) (by omega)) (Ev.ite_neg (by simp) (Ev.ite_neg (by rw [e2]; simp) ?_)))
 refine Ev.bind (vTable_ev _ (by omega) (fun r hr => by have := sizeSS_row hr; omega)) ?_
 refine Ev.step (fun k => by rw [laws_FnCaves.j4]) (Ev.ite_neg (by decide) ?_)
 by_cases h : okLegs x = true ∧ okEnts e = true
 ·have et : throughAns x e = (pairsOf x e, true) := if_pos h
  rw [et] at h64 ⊢
  have hpw := rises_pairwise h.2
  have hin := rises_in h.2
  refine caves_l1 hb (pairsOf x e) (.inl h.1) h2 h64 (fun p hp => ?_) (pairsOf x e).length 0 (by omega)
  obtain ⟨q1, q2, q3, q4⟩ := pairsOf_mem hpw hp
  have := hin _ q1
  have := hin _ q2
  exact ⟨by omega, q3, by omega, q4⟩
 ·have et : throughAns x e = ([], false) := if_neg h
  rw [et]
  exact caves_l1 hb [] (.inr rfl) h2 (by simp) (by simp) 0 0 (by simp)
theorem caves_l0 {l : List Int} (hb : Bytes l) {x : List S72} (hl : okLegs x = true) : ∀ (rs : List (List Int)) (i : Nat) (sum most : Int), (cavesOf x).drop i = rs → i + rs.length = (cavesOf x).length → 0 ≤ sum → sum + sumOf (fun c => lengthOf x (rd c 0)) rs = allLen x →
  mostC x rs most = mostC x (cavesOf x) 0 → Ev (fun k => laws_FnCaves.l0 k l x (cavesOf x) sum most (i : Int)) true := by
 have h12 := okLegs_len hl
 have h8 := (caves_size hl).2
 have hall : 0 ≤ allLen x ∧ allLen x ≤ 6000 := by
  have := part_le hl (fun _ => true) x.length 0 (by omega)
  unfold allLen
  omega
 have hf := caves_first hl
 intro rs
 induction rs with
 | nil =>
  intro i sum most hd hi h0 hs hm
  simp only [List.length_nil] at hi
  simp only [sumOf] at hs
  simp only [mostC] at hm
  refine Ev.step (fun k => by rw [laws_FnCaves.l0]) (Ev.ite_neg (by omega) ?_)
  refine Ev.bind (legsLength_ev hl) (Ev.bind (implLongest_ev x (by omega)) (Ev.ite_pos rfl (Ev.ite_pos (by dsimp only; omega) ?_)))
  by_cases hne : x = []
  ·rw [show longestAns x = (0, 0, false) from if_neg (fun h => h.2 hne)]
   refine Ev.ite_neg (by subst hne; simp) (Ev.ite_neg (by decide) (caves_j2 hb))
  ·rw [show longestAns x = _ from if_pos ⟨hl, hne⟩]
   have hpos : 0 < x.length := List.length_pos_iff.2 hne
   refine Ev.ite_neg (by simp [hpos]) (Ev.ite_pos rfl (Ev.ite_pos ?_ (caves_j2 hb)))
   dsimp only
   rw [mostC_long, hm]
 | cons c rs ih =>
  intro i sum most hd hi h0 hs hm
  simp only [List.length_cons] at hi
  have hil : i < (cavesOf x).length := by omega
  have hd2 := List.drop_eq_getElem_cons hil
  rw [hd, List.cons.injEq] at hd2
  have e : rd_L5 (cavesOf x) (i : Int) = c := by simp [rd_L5, List.getD_eq_getElem?_getD, List.getElem?_eq_getElem hil, hd2.1]
  have hc := hf c (by rw [hd2.1]; exact List.getElem_mem hil)
  simp only [sumOf] at hs
  simp only [mostC] at hm
  have hrest : 0 ≤ sumOf (fun c => lengthOf x (rd c 0)) rs := by
   have key : ∀ qs : List (List Int), (∀ q ∈ qs, q ∈ cavesOf x) → 0 ≤ sumOf (fun c => lengthOf x (rd c 0)) qs := by
    intro qs
    induction qs with
    | nil => intro _; exact Int.le_refl _
    | cons q qs ihq =>
     intro h
     have := (hf q (h q List.mem_cons_self)).2.2
     have := ihq (fun z hz => h z (List.mem_cons_of_mem _ hz))
     simp only [sumOf]
     omega
   refine key rs (fun q hq => ?_)
   rw [hd2.2] at hq
   exact List.mem_of_mem_drop hq
  have hpos := hc.2.2
  refine Ev.step (fun k => by rw [laws_FnCaves.l0]) (Ev.ite_pos (by omega) (Ev.ite_pos (by omega) ?_))
  rw [e]
  refine Ev.ite_pos (by omega) (Ev.bind (implCaveLength_ev x (rd c 0) (by omega)) ?_)
  rw [show caveAns x (rd c 0) = (lengthOf x (rd c 0), true) from if_pos ⟨hl, by omega⟩]
  dsimp only
  rw [wrap_id (x := sum + lengthOf x (rd c 0)) (by omega) (by omega), wrap_up hil (by omega)]
  refine Ev.ite_pos rfl ?_
  by_cases hg : lengthOf x (rd c 0) > most
  ·rw [if_pos hg] at hm
   exact Ev.ite_pos hg (ih (i + 1) _ _ hd2.2.symm (by omega) (by omega) (by omega) hm)
  ·rw [if_neg hg] at hm
   exact Ev.ite_neg hg (ih (i + 1) _ _ hd2.2.symm (by omega) (by omega) (by omega) hm)
theorem FnCaves (l0 : List Int) (hm0 : l0.length ≤ 9223372036854775807) (hw0 : ∀ x ∈ l0, (Lit.int .u8 x).wf = true) : ∃ k, laws_FnCaves.f k l0 = some true := by
 apply Ev.rounds
 have hb := bytes_of hw0
 simp only [laws_FnCaves.f, laws_vBig.f, Option.bind_some]
 by_cases hbig : (l0.length : Int) > 65536
 ·exact Ev.ite_pos (decide_eq_true hbig) (Ev.now true)
 refine Ev.ite_neg (by simpa using hbig) ?_
 have hd : Dr (fun k => spec_DrawCavesOf.f k l0) (fun r => r.length ≤ 13) := by
  simp only [spec_DrawCavesOf.f]
  exact Dr.bind (dr_caves hb (by omega) (by omega)) (fun r hr => Dr.now _ hr.1)
 obtain ⟨x, h1, h2⟩ := hd
 have hsz := cavesAns_len x
 refine Ev.bind h1 (Ev.bind (implCavesOf_ev x (by omega)) (Ev.bind (specCavesOf_ev x (by omega)) (Ev.ite_neg (by simp) ?_)))
 refine Ev.bind (vTable_ev _ (by omega) (fun r hr => by have := sizeSS_row hr; omega)) ?_
 refine Ev.step (fun k => by rw [laws_FnCaves.j0]) (Ev.ite_neg (by decide) ?_)
 by_cases hl : okLegs x = true
 ·rw [show cavesAns x = (cavesOf x, true) from if_pos hl]
  exact Ev.ite_pos rfl (caves_l0 hb hl (cavesOf x) 0 0 0 rfl (by omega) (by omega) (by rw [caves_sum hl]; omega) rfl)
 ·rw [show cavesAns x = ([], false) from if_neg hl]
  exact Ev.ite_neg (by decide) (caves_j2 hb)
end Go.Proofs.Ytkocflfadlempaa.Pure
