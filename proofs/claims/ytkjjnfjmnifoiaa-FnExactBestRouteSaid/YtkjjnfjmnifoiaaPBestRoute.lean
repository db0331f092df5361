/- The best route: the program's search and the reference's come to the same. -/
import Derived.Test.YtkjjnfjmnifoiaaMRx5
import Derived.Test.YtkjjnfjmnifoiaaMRx3
import Derived.Test.YtkjjnfjmnifoiaaPRouteSz
import Derived.Test.YtkjjnfjmnifoiaaPAsked
namespace Go.Proofs.Ytkjjnfjmnifoiaa.Pure
open Go.RowKit Go.Proofs.Ytkjjnfjmnifoiaa.MR Go.Proofs.YtkjjnfjmnifoiaaW.PrintWords Go.Proofs.YtkjjnfjmnifoiaaW.PrintLast Go.Proofs.YtkjjnfjmnifoiaaW.PrintMore
set_option linter.unusedVariables false
set_option linter.unusedSimpArgs false
theorem nodup_len : ∀ (n : Nat) (l : List Int), l.Nodup → (∀ x ∈ l, 0 ≤ x ∧ x < (n : Int)) → l.length ≤ n
  | 0, l, _, h => by
    cases l with
    | nil => exact Nat.le_refl _
    | cons x l => have := h x List.mem_cons_self; omega
  | n + 1, l, hn, h => by
    by_cases hm : (n : Int) ∈ l
    · have := nodup_len n (l.erase (n : Int)) (hn.erase _) (fun x hx => by
        have h1 := (List.Nodup.mem_erase_iff hn).1 hx
        have := h x h1.2
        omega)
      rw [List.length_erase_of_mem hm] at this
      omega
    · have := nodup_len n l hn (fun x hx => by
        have h1 := h x hx
        have h2 : x ≠ (n : Int) := fun e => hm (e ▸ hx)
        omega)
      omega
def tapeOf (l : List S69) (q : Int) : Int := (rd_T69 l q).f2
def lastOf (r : List Int) : Int := r.getD (r.length - 1) 0
theorem lastOf_eq {r : List Int} (h0 : 0 < r.length) (h1 : r.length ≤ 1000) : rd r (wrap64 ((r.length : Int) - 1)) = lastOf r := by
  rw [show wrap64 ((r.length : Int) - 1) = ((r.length - 1 : Nat) : Int) by unfold wrap64; omega, rd_nat]
  rfl
structure RtOk (l : List S69) (ws r : List Int) (len : Int) : Prop where
  ne : 0 < r.length
  nod : r.Nodup
  inn : ∀ x ∈ r, 0 ≤ x ∧ x < 8
  via : ∀ j, j < r.length → j ≠ 0 → 0 ≤ viaOf l ws r j
  sz : (sizeFrom l ws r (r.length - 1) 1 200 0).2 = len
  b0 : 0 ≤ len
  b1 : len ≤ 500 * r.length
theorem RtOk.len8 {l : List S69} {ws r : List Int} {len : Int} (h : RtOk l ws r len) : r.length ≤ 8 := nodup_len 8 r h.nod h.inn
theorem getD_app {r : List Int} {x : Int} {i : Nat} (h : i < r.length) : (r ++ [x]).getD i 0 = r.getD i 0 := by
  rw [getD_lt _ _ _ (by rw [List.length_append]; omega : i < (r ++ [x]).length), getD_lt _ _ _ h, List.getElem_append_left h]
theorem getD_app_last (r : List Int) (x : Int) : (r ++ [x]).getD r.length 0 = x := by
  simp [List.getD_eq_getElem?_getD]
theorem via_app {l : List S69} {ws r : List Int} {x : Int} {j : Nat} (h : j < r.length) : viaOf l ws (r ++ [x]) j = viaOf l ws r j := by
  unfold viaOf
  rw [getD_app h, getD_app (by omega)]
theorem via_last {l : List S69} {ws r : List Int} {x : Int} (h : 0 < r.length) : viaOf l ws (r ++ [x]) r.length = legOf l ws (lastOf r) x := by
  unfold viaOf lastOf
  rw [getD_app_last, getD_app (by omega)]
theorem size_app {l : List S69} {ws r : List Int} {x : Int} (h : 0 < r.length) : ∀ d i (w s : Int), i + d = r.length → (sizeFrom l ws (r ++ [x]) (d + 1) i w s).2 = wrap64 ((sizeFrom l ws r d i w s).2 + tapeOf l (legOf l ws (lastOf r) x))
  | 0, i, w, s, hi => by
    obtain rfl : i = r.length := by omega
    simp only [sizeFrom, via_last h, tapeOf]
  | d + 1, i, w, s, hi => by
    rw [show sizeFrom l ws (r ++ [x]) (d + 1 + 1) i w s = sizeFrom l ws (r ++ [x]) (d + 1) (i + 1) (min w (rd ws (viaOf l ws (r ++ [x]) i))) (wrap64 (s + (rd_T69 l (viaOf l ws (r ++ [x]) i)).f2)) from rfl, via_app (by omega), size_app h d (i + 1) _ _ (by omega)]
    rfl
theorem RtOk.add {l : List S69} {ws r : List Int} {len : Int} (h : RtOk l ws r len) (hl : okLegs l = true) {s : Int} (hs : s ∉ r) (hb : 0 ≤ s ∧ s < 8) (hq : 0 ≤ legOf l ws (lastOf r) s) : RtOk l ws (r ++ [s]) (wrap64 (len + tapeOf l (legOf l ws (lastOf r) s))) ∧ 0 ≤ wrap64 (len + tapeOf l (legOf l ws (lastOf r) s)) := by
  have h8 := h.len8
  have h0 := h.b0
  have h1 := h.b1
  have hin := (legOf_in l ws (lastOf r) s).resolve_left (by omega)
  obtain ⟨p, hp⟩ := Int.eq_ofNat_of_zero_le hin.1
  have hpl : p < l.length := by omega
  have ht := okLeg_says (okLegs_at hl hpl)
  have htp : tapeOf l (legOf l ws (lastOf r) s) = (l.getD p z69).f2 := by rw [tapeOf, hp, rdL]
  have hwr : wrap64 (len + tapeOf l (legOf l ws (lastOf r) s)) = len + (l.getD p z69).f2 := by
    rw [htp]
    exact wrap_id (by omega) (by omega)
  have hla : (r ++ [s]).length = r.length + 1 := by rw [List.length_append, List.length_singleton]
  refine ⟨⟨by omega, ?_, ?_, ?_, ?_, by rw [hwr]; omega, by rw [hwr, hla]; omega⟩, by rw [hwr]; omega⟩
  · rw [List.nodup_append]
    refine ⟨h.nod, by simp, fun a ha b hb2 e => ?_⟩
    rw [List.mem_singleton] at hb2
    exact hs (by rw [← hb2, ← e]; exact ha)
  · intro x hx
    rcases List.mem_append.1 hx with hx | hx
    · exact h.inn x hx
    · rw [List.mem_singleton] at hx
      rw [hx]
      exact hb
  · intro j hj h0
    by_cases hjr : j < r.length
    · rw [via_app hjr]
      exact h.via j hjr h0
    · obtain rfl : j = r.length := by omega
      rw [via_last h.ne]
      exact hq
  · rw [hla, show r.length + 1 - 1 = (r.length - 1) + 1 by have := h.ne; omega, size_app h.ne (r.length - 1) 1 200 0 (by have := h.ne; omega), h.sz]
/-! the program's search, without rounds -/
def loopB (f : List Int → Int → RtSt → RtSt) (l : List S69) (ws : List Int) (wd la : Int) (r : List Int) (len : Int) : Nat → Nat → RtSt → RtSt
  | 0, _, st => st
  | n + 1, s, st => loopB f l ws wd la r len n (s + 1) (if (s : Int) ∈ r ∨ legOf l ws la (s : Int) < 0 ∨ rd ws (legOf l ws la (s : Int)) < wd then st else f (r ++ [(s : Int)]) (wrap64 (len + tapeOf l (legOf l ws la (s : Int)))) st)
def goB (l : List S69) (ws : List Int) (ta wd : Int) : Nat → List Int → Int → RtSt → RtSt
  | 0, _, _, st => st
  | d + 1, r, len, st => if lastOf r = ta then rtLeaf r len st else loopB (goB l ws ta wd d) l ws wd (lastOf r) r len 8 0 st
theorem goB_ev {l : List S69} {ws : List Int} (hw : okWidths l ws = true) (ta wd : Int) : ∀ d r (len : Int) st, r.length + d = 10 → RtOk l ws r len → Ev (fun k => rtGo k l ws ta wd d r len st) (goB l ws ta wd d r len st) := by
  have hl := okWidths_legs hw
  have hwl := okWidths_len hw
  intro d
  induction d with
  | zero =>
    intro r len st hd h
    have := h.len8
    omega
  | succ d ih =>
    intro r len st hd h
    have h8 := h.len8
    have h0 := h.ne
    simp only [rtGo, goB]
    refine Ev.ite_pos ⟨h.ne, by omega⟩ ?_
    rw [show rtLast r = lastOf r from lastOf_eq h.ne (by omega)]
    by_cases ht : lastOf r = ta
    · rw [if_pos ht]
      exact Ev.ite_pos ht (Ev.now _)
    · rw [if_neg ht]
      refine Ev.ite_neg ht ?_
      have hla : 0 ≤ lastOf r ∧ lastOf r ≤ 7 := by
        have := h.inn (lastOf r) (by unfold lastOf; rw [getD_lt _ _ _ (by omega : r.length - 1 < r.length)]; exact List.getElem_mem _)
        omega
      have key : ∀ n s st, s + n = 8 → Ev (fun k => rtLoop (rtGo k l ws ta wd d) k l ws wd (lastOf r) r len n s st) (loopB (goB l ws ta wd d) l ws wd (lastOf r) r len n s st) := by
        intro n
        induction n with
        | zero =>
          intro s st _
          simp only [rtLoop, loopB]
          exact Ev.now _
        | succ n ihn =>
          intro s st hs
          simp only [rtLoop, loopB]
          refine Ev.bind (implLeg_ev hl hwl hla (b := (s : Int)) (by omega)) ?_
          have hin := legOf_in l ws (lastOf r) (s : Int)
          by_cases c1 : (s : Int) ∈ r ∨ legOf l ws (lastOf r) (s : Int) < 0
          · rw [if_pos (c1.elim .inl (fun h => .inr (.inl h)))]
            exact Ev.ite_pos c1 (ihn (s + 1) st (by omega))
          · refine Ev.ite_neg c1 ?_
            have hq : 0 ≤ legOf l ws (lastOf r) (s : Int) := by
              rcases hin with hh | hh
              · exact absurd (.inr (by omega)) c1
              · exact hh.1
            refine Ev.ite_pos ⟨by omega, by omega⟩ ?_
            by_cases c2 : rd ws (legOf l ws (lastOf r) (s : Int)) < wd
            · rw [if_pos (.inr (.inr c2))]
              exact Ev.ite_pos c2 (ihn (s + 1) st (by omega))
            · rw [if_neg (fun hh => hh.elim (fun a => c1 (.inl a)) (fun b => b.elim (fun a => c1 (.inr a)) c2))]
              refine Ev.ite_neg c2 ?_
              have ha := h.add hl (fun hm => c1 (.inl hm)) (by omega : (0 : Int) ≤ (s : Int) ∧ (s : Int) < 8) hq
              exact Ev.bind (ih _ _ st (by rw [List.length_append, List.length_singleton]; omega) ha.1) (ihn (s + 1) _ (by omega))
      exact key 8 0 st (by omega)
/-! the reference's -/
def loopS (f : List Int → Int → RtSt) (l : List S69) (ws : List Int) (wd la : Int) (r : List Int) (len : Int) : Nat → Nat → RtSt → RtSt
  | 0, _, acc => acc
  | n + 1, s, acc => loopS f l ws wd la r len n (s + 1) (if (s : Int) ∈ r ∨ legOf l ws la (s : Int) < 0 ∨ rd ws (legOf l ws la (s : Int)) < wd then acc else if (f (r ++ [(s : Int)]) (wrap64 (len + tapeOf l (legOf l ws la (s : Int))))).2 ≥ 0 ∧ (acc.2 < 0 ∨ (f (r ++ [(s : Int)]) (wrap64 (len + tapeOf l (legOf l ws la (s : Int))))).2 < acc.2) then f (r ++ [(s : Int)]) (wrap64 (len + tapeOf l (legOf l ws la (s : Int)))) else acc)
def goS (l : List S69) (ws : List Int) (ta wd : Int) : Nat → List Int → Int → RtSt
  | 0, _, _ => ([], -1)
  | d + 1, r, len => if lastOf r = ta then (r, len) else loopS (goS l ws ta wd d) l ws wd (lastOf r) r len 8 0 ([], -1)
theorem goS_ev {l : List S69} {ws : List Int} (hw : okWidths l ws = true) (ta wd : Int) : ∀ d r (len : Int), r.length + d = 10 → RtOk l ws r len → Ev (fun k => spec_l15Best.f k l ws r ta wd) (goS l ws ta wd d r len) := by
  have hl := okWidths_legs hw
  have hwl := okWidths_len hw
  intro d
  induction d with
  | zero =>
    intro r len hd h
    have := h.len8
    omega
  | succ d ih =>
    intro r len hd h
    have h8 := h.len8
    have h0 := h.ne
    have hwr1 : wrap64 ((r.length : Int) - 1) = (r.length : Int) - 1 := by unfold wrap64; omega
    have hlast := lastOf_eq h.ne (by omega)
    simp only [goS]
    by_cases ht : lastOf r = ta
    · rw [if_pos ht]
      refine Ev.step (f := fun k => (spec_l15Size.f k l ws r).bind fun b => some (r, b.2)) (fun k => ?_) (Ev.bind (specSize_loop hl hwl (by omega) h.via (r.length - 1) 1 200 0 (by omega) (by omega)) ?_)
      · rw [spec_l15Best.f, if_pos (by omega), if_pos (by omega), if_pos (by rw [hlast]; exact ht)]
      · rw [h.sz]
        exact Ev.now _
    · rw [if_neg ht]
      have hla : 0 ≤ lastOf r ∧ lastOf r ≤ 7 := by
        have := h.inn (lastOf r) (by unfold lastOf; rw [getD_lt _ _ _ (by omega : r.length - 1 < r.length)]; exact List.getElem_mem _)
        omega
      have key : ∀ (n s : Nat) (acc : RtSt), s + n = 8 → Ev (fun k => spec_l15Best.l0 k l ws r ta wd (lastOf r) acc.1 acc.2 (s : Int)) (loopS (goS l ws ta wd d) l ws wd (lastOf r) r len n s acc) := by
        intro n
        induction n with
        | zero =>
          intro s acc hs
          refine Ev.step (f := fun _ => some acc) (fun n => ?_) (Ev.now _)
          rw [spec_l15Best.l0]
          exact if_neg (by omega)
        | succ n ihn =>
          intro s acc hs
          have hwr : wrap64 ((s : Int) + 1) = ((s + 1 : Nat) : Int) := wrap_up (show s < 8 by omega) (by decide)
          have hin := legOf_in l ws (lastOf r) (s : Int)
          simp only [loopS]
          have hskip : ∀ x, Ev (fun n => spec_l15Best.l0 n l ws r ta wd (lastOf r) acc.1 acc.2 ((s + 1 : Nat) : Int)) x → Ev (fun n => spec_l15Best.j1 n l ws r ta wd (lastOf r) acc.1 acc.2 (s : Int) true) x := fun x h =>
            Ev.step (fun n => by rw [spec_l15Best.j1, if_pos rfl, hwr]) h
          refine Ev.step (f := fun k => (spec_l15Leg.f k l ws (lastOf r) (s : Int)).bind fun t174 => (if t174 < 0 then (spec_l15Best.j1 k l ws r ta wd (lastOf r) acc.1 acc.2 (s : Int) true) else (if 0 ≤ t174 then (if t174 < (ws.length : Int) then (if (rd ws t174) < wd then (spec_l15Best.j1 k l ws r ta wd (lastOf r) acc.1 acc.2 (s : Int) true) else ((spec_l1Has.f k r (s : Int)).bind fun t176 => (spec_l15Best.j1 k l ws r ta wd (lastOf r) acc.1 acc.2 (s : Int) t176))) else (none)) else (none)))) (fun k => by rw [spec_l15Best.l0, if_pos (by omega)]) (Ev.bind (specLeg_ev hl hwl (lastOf r) (s : Int)) ?_)
          by_cases c1 : legOf l ws (lastOf r) (s : Int) < 0
          · rw [if_pos (.inr (.inl c1))]
            exact Ev.ite_pos c1 (hskip _ (ihn (s + 1) acc (by omega)))
          · have hq : 0 ≤ legOf l ws (lastOf r) (s : Int) := by omega
            refine Ev.ite_neg c1 (Ev.ite_pos hq (Ev.ite_pos (by omega) ?_))
            by_cases c2 : rd ws (legOf l ws (lastOf r) (s : Int)) < wd
            · rw [if_pos (.inr (.inr c2))]
              exact Ev.ite_pos c2 (hskip _ (ihn (s + 1) acc (by omega)))
            · refine Ev.ite_neg c2 (Ev.bind (l1Has_ev (n := (s : Int)) (by omega)) ?_)
              by_cases c3 : (s : Int) ∈ r
              · rw [if_pos (.inl c3), decide_eq_true c3]
                exact hskip _ (ihn (s + 1) acc (by omega))
              · rw [if_neg (fun hh => hh.elim c3 (fun b => b.elim c1 c2)), decide_eq_false c3]
                have ha := h.add hl c3 (by omega : (0 : Int) ≤ (s : Int) ∧ (s : Int) < 8) hq
                have hcall := ih _ _ (by rw [List.length_append, List.length_singleton]; omega) ha.1
                refine Ev.step (f := fun k => (spec_l15Best.f k l ws (r ++ [(s : Int)]) ta wd).bind fun bt183 => (if bt183.2 ≥ 0 then (if acc.2 < 0 then (spec_l15Best.l0 k l ws r ta wd (lastOf r) bt183.1 bt183.2 ((s + 1 : Nat) : Int)) else (if bt183.2 < acc.2 then (spec_l15Best.l0 k l ws r ta wd (lastOf r) bt183.1 bt183.2 ((s + 1 : Nat) : Int)) else (spec_l15Best.l0 k l ws r ta wd (lastOf r) acc.1 acc.2 ((s + 1 : Nat) : Int)))) else (spec_l15Best.l0 k l ws r ta wd (lastOf r) acc.1 acc.2 ((s + 1 : Nat) : Int)))) (fun k => ?_) (Ev.bind hcall ?_)
                · rw [spec_l15Best.j1, if_neg (by decide)]
                  simp only [spec_l1Own.f, Option.bind_some, List.nil_append, List.length_nil, Nat.zero_add, hwr]
                  rw [if_pos (by omega)]
                  simp only [Option.bind_some]
                  rw [if_pos (by omega)]
                · generalize goS l ws ta wd d (r ++ [(s : Int)]) (wrap64 (len + tapeOf l (legOf l ws (lastOf r) (s : Int)))) = g
                  by_cases g1 : g.2 ≥ 0
                  · refine Ev.ite_pos g1 ?_
                    by_cases g2 : acc.2 < 0
                    · rw [if_pos ⟨g1, .inl g2⟩]
                      exact Ev.ite_pos g2 (ihn (s + 1) _ (by omega))
                    · refine Ev.ite_neg g2 ?_
                      by_cases g3 : g.2 < acc.2
                      · rw [if_pos ⟨g1, .inr g3⟩]
                        exact Ev.ite_pos g3 (ihn (s + 1) _ (by omega))
                      · rw [if_neg (fun h => h.2.elim g2 g3)]
                        exact Ev.ite_neg g3 (ihn (s + 1) acc (by omega))
                  · rw [if_neg (fun h => g1 h.1)]
                    exact Ev.ite_neg g1 (ihn (s + 1) acc (by omega))
      refine Ev.step (f := fun k => spec_l15Best.l0 k l ws r ta wd (lastOf r) [] (-1) 0) (fun k => ?_) (key 8 0 ([], -1) (by omega))
      rw [spec_l15Best.f, if_pos (by omega), if_pos (by omega), if_neg (by rw [hlast]; exact ht), hlast]
/-! both come to the same -/
def combR (st r : RtSt) : RtSt := if 0 ≤ r.2 ∧ (st.1 = [] ∨ r.2 < st.2) then r else st
def Found (r : RtSt) : Prop := r = ([], -1) ∨ (0 ≤ r.2 ∧ r.1 ≠ [])
theorem combR_combR (st acc r : RtSt) (ha : Found acc) : combR (combR st acc) r = combR st (if r.2 ≥ 0 ∧ (acc.2 < 0 ∨ r.2 < acc.2) then r else acc) := by
  rcases ha with rfl | ⟨a1, a2⟩
  · have e : combR st ([], -1) = st := if_neg (fun h => absurd h.1 (by decide))
    rw [e]
    by_cases h : r.2 ≥ 0
    · rw [if_pos ⟨h, .inl (by decide)⟩]
    · rw [if_neg (fun hh => h hh.1), e]
      exact if_neg (fun hh => h hh.1)
  · by_cases h : r.2 ≥ 0 ∧ (acc.2 < 0 ∨ r.2 < acc.2)
    · rw [if_pos h]
      have h2 : r.2 < acc.2 := by omega
      by_cases c : st.1 = [] ∨ acc.2 < st.2
      · have e : combR st acc = acc := if_pos ⟨a1, c⟩
        rw [e]
        have e1 : combR acc r = r := if_pos ⟨h.1, .inr h2⟩
        have e2 : combR st r = r := if_pos ⟨h.1, c.imp id (fun x => by omega)⟩
        rw [e1, e2]
      · have e : combR st acc = st := if_neg (fun hh => c hh.2)
        rw [e]
    · rw [if_neg h]
      by_cases c : st.1 = [] ∨ acc.2 < st.2
      · have e : combR st acc = acc := if_pos ⟨a1, c⟩
        rw [e]
        exact if_neg (fun hh => h ⟨hh.1, .inr (hh.2.resolve_left a2)⟩)
      · have e : combR st acc = st := if_neg (fun hh => c hh.2)
        rw [e]
        refine if_neg (fun hh => ?_)
        have h3 : ¬ r.2 < acc.2 := fun hx => h ⟨hh.1, .inr hx⟩
        exact c (hh.2.imp id (fun x => by omega))
theorem loopS_found {f : List Int → Int → RtSt} (hf : ∀ r len, 0 ≤ len → r ≠ [] → Found (f r len)) {l : List S69} {ws : List Int} {wd la : Int} {r : List Int} {len : Int} (hlen : ∀ s : Nat, s < 8 → ¬ ((s : Int) ∈ r ∨ legOf l ws la (s : Int) < 0 ∨ rd ws (legOf l ws la (s : Int)) < wd) → 0 ≤ wrap64 (len + tapeOf l (legOf l ws la (s : Int)))) : ∀ n s acc, s + n = 8 → Found acc → Found (loopS f l ws wd la r len n s acc)
  | 0, _, _, _, h => h
  | n + 1, s, acc, hs, h => by
    simp only [loopS]
    refine loopS_found hf hlen n (s + 1) _ (by omega) ?_
    split
    · exact h
    · rename_i hc
      split
      · exact hf _ _ (hlen s (by omega) hc) (by simp)
      · exact h
theorem go_same {l : List S69} {ws : List Int} (hl : okLegs l = true) (ta wd : Int) : ∀ d r (len : Int), RtOk l ws r len → Found (goS l ws ta wd d r len) ∧ (r.length + d = 10 → ∀ st, goB l ws ta wd d r len st = combR st (goS l ws ta wd d r len)) := by
  intro d
  induction d with
  | zero =>
    intro r len h
    refine ⟨.inl rfl, fun hd => ?_⟩
    have := h.len8
    omega
  | succ d ih =>
    intro r len h
    have hne : r ≠ [] := fun e => by have := h.ne; rw [e] at this; simp at this
    simp only [goS, goB]
    by_cases ht : lastOf r = ta
    · rw [if_pos ht]
      refine ⟨.inr ⟨h.b0, hne⟩, fun _ st => ?_⟩
      rw [if_pos ht]
      unfold rtLeaf combR
      by_cases c : st.1 = [] ∨ len < st.2
      · rw [if_pos c, if_pos ⟨h.b0, c⟩]
      · rw [if_neg c, if_neg (fun hh => c hh.2)]
    · rw [if_neg ht]
      have hadd : ∀ s : Nat, s < 8 → ¬ ((s : Int) ∈ r ∨ legOf l ws (lastOf r) (s : Int) < 0 ∨ rd ws (legOf l ws (lastOf r) (s : Int)) < wd) → RtOk l ws (r ++ [(s : Int)]) (wrap64 (len + tapeOf l (legOf l ws (lastOf r) (s : Int)))) := fun s hs hc =>
        (h.add hl (fun hm => hc (.inl hm)) (by omega : (0 : Int) ≤ (s : Int) ∧ (s : Int) < 8) (by have := fun hx => hc (.inr (.inl hx)); omega)).1
      have key : ∀ n s acc, s + n = 8 → Found acc → Found (loopS (goS l ws ta wd d) l ws wd (lastOf r) r len n s acc) ∧ (r.length + (d + 1) = 10 → ∀ st, loopB (goB l ws ta wd d) l ws wd (lastOf r) r len n s (combR st acc) = combR st (loopS (goS l ws ta wd d) l ws wd (lastOf r) r len n s acc)) := by
        intro n
        induction n with
        | zero => intro s acc _ ha; exact ⟨ha, fun _ _ => rfl⟩
        | succ n ihn =>
          intro s acc hs ha
          simp only [loopS, loopB]
          by_cases hc : (s : Int) ∈ r ∨ legOf l ws (lastOf r) (s : Int) < 0 ∨ rd ws (legOf l ws (lastOf r) (s : Int)) < wd
          · rw [if_pos hc]
            have hh := ihn (s + 1) acc (by omega) ha
            refine ⟨hh.1, fun hd st => ?_⟩
            rw [if_pos hc]
            exact hh.2 hd st
          · rw [if_neg hc]
            have hi := ih _ _ (hadd s (by omega) hc)
            have hf : Found (if (goS l ws ta wd d (r ++ [(s : Int)]) (wrap64 (len + tapeOf l (legOf l ws (lastOf r) (s : Int))))).2 ≥ 0 ∧ (acc.2 < 0 ∨ (goS l ws ta wd d (r ++ [(s : Int)]) (wrap64 (len + tapeOf l (legOf l ws (lastOf r) (s : Int))))).2 < acc.2) then goS l ws ta wd d (r ++ [(s : Int)]) (wrap64 (len + tapeOf l (legOf l ws (lastOf r) (s : Int)))) else acc) := by
              split
              · exact hi.1
              · exact ha
            have hh := ihn (s + 1) _ (by omega) hf
            refine ⟨hh.1, fun hd st => ?_⟩
            rw [if_neg hc, hi.2 (by rw [List.length_append, List.length_singleton]; omega), combR_combR st acc _ ha]
            exact hh.2 hd st
      have hk := key 8 0 ([], -1) (by omega) (.inl rfl)
      refine ⟨hk.1, fun hd st => ?_⟩
      rw [if_neg ht, ← hk.2 hd st]
      rw [show combR st ([], -1) = st from if_neg (fun h => absurd h.1 (by decide))]
theorem start_ok {l : List S69} {ws : List Int} {a : Int} (ha : 0 ≤ a ∧ a ≤ 7) : RtOk l ws [a] 0 :=
  ⟨by simp, by simp, fun x hx => by rw [List.mem_singleton] at hx; omega, fun j hj h0 => by rw [List.length_singleton] at hj; omega, rfl, Int.le_refl _, by simp⟩
theorem goS_len {l : List S69} {ws : List Int} (ta wd : Int) : ∀ d r (len : Int), (goS l ws ta wd d r len).1.length ≤ r.length + d := by
  intro d
  induction d with
  | zero => intro r len; exact Nat.zero_le _
  | succ d ih =>
    intro r len
    simp only [goS]
    split
    · exact Nat.le_add_right _ _
    · have key : ∀ n s acc, acc.1.length ≤ r.length + (d + 1) → (loopS (goS l ws ta wd d) l ws wd (lastOf r) r len n s acc).1.length ≤ r.length + (d + 1) := by
        intro n
        induction n with
        | zero => intro s acc h; exact h
        | succ n ihn =>
          intro s acc h
          simp only [loopS]
          refine ihn (s + 1) _ ?_
          split
          · exact h
          · split
            · have := ih (r ++ [(s : Int)]) (wrap64 (len + tapeOf l (legOf l ws (lastOf r) (s : Int))))
              rw [List.length_append, List.length_singleton] at this
              omega
            · exact h
      exact key 8 0 ([], -1) (Nat.zero_le _)
def routeAns (l : List S69) (ws : List Int) (a b wd : Int) : List Int × Bool := if okAsked l ws a b = true ∧ (0 ≤ wd ∧ wd ≤ 200) then ((goS l ws b wd 9 [a] 0).1, decide ((goS l ws b wd 9 [a] 0).2 ≥ 0)) else ([], false)
theorem routeAns_len (l : List S69) (ws : List Int) (a b wd : Int) : (routeAns l ws a b wd).1.length ≤ 10 := by
  unfold routeAns
  split
  · exact goS_len b wd 9 [a] 0
  · exact Nat.zero_le _
theorem implBR_ev (l : List S69) (ws : List Int) (a b wd : Int) (hm : l.length ≤ 9223372036854775807) : Ev (fun k => impl_BestRoute.f k l ws a b wd) (routeAns l ws a b wd) := by
  simp only [impl_BestRoute.f, within_eq, Option.bind_some]
  refine Ev.bind (areEnds_ev l ws a b hm) ?_
  unfold routeAns
  by_cases h : okAsked l ws a b = true
  · refine Ev.ite_pos h ?_
    by_cases hw : 0 ≤ wd ∧ wd ≤ 200
    · rw [if_pos ⟨h, hw⟩]
      refine Ev.ite_pos (decide_eq_true hw) ?_
      obtain ⟨h1, h2, h3⟩ := okAsked_says h
      have hs := start_ok (l := l) (ws := ws) h2
      have hg := go_same (okWidths_legs h1) b wd 9 [a] 0 hs
      have he := goB_ev h1 b wd 9 [a] 0 ([], 0) (by simp) hs
      rw [hg.2 (by simp) ([], 0)] at he
      refine Ev.bind he ?_
      rcases hg.1 with hf | hf
      · rw [hf]
        exact Ev.now _
      · rw [show combR ([], 0) (goS l ws b wd 9 [a] 0) = goS l ws b wd 9 [a] 0 from if_pos ⟨hf.1, .inl rfl⟩, decide_eq_true hf.2, show decide ((goS l ws b wd 9 [a] 0).2 ≥ 0) = true from decide_eq_true hf.1]
        exact Ev.now _
    · rw [if_neg (fun hh => hw hh.2)]
      exact Ev.ite_neg (by rw [decide_eq_false hw]; decide) (Ev.now _)
  · rw [if_neg (fun hh => h hh.1)]
    exact Ev.ite_neg h (Ev.now _)
theorem specBR_ev (l : List S69) (ws : List Int) (a b wd : Int) (hm : l.length ≤ 9223372036854775807) (hw : ws.length ≤ 9223372036854775807) : Ev (fun k => spec_BestRoute.f k l ws a b wd) (routeAns l ws a b wd) := by
  simp only [spec_BestRoute.f, spec_l12Far.f, l1In_eq, Option.bind_some]
  refine Ev.bind (l15Asked_ev l ws a b hm hw) ?_
  unfold routeAns
  by_cases h : okAsked l ws a b = true
  · refine Ev.ite_pos h ?_
    by_cases hw : 0 ≤ wd ∧ wd ≤ 200
    · rw [if_pos ⟨h, hw⟩]
      refine Ev.ite_pos (decide_eq_true hw) ?_
      obtain ⟨h1, h2, h3⟩ := okAsked_says h
      exact Ev.bind (goS_ev h1 b wd 9 [a] 0 (by simp) (start_ok h2)) (Ev.now _)
    · rw [if_neg (fun hh => hw hh.2)]
      exact Ev.ite_neg (by rw [decide_eq_false hw]; decide) (Ev.now _)
  · rw [if_neg (fun hh => h hh.1)]
    exact Ev.ite_neg h (Ev.now _)
end Go.Proofs.Ytkjjnfjmnifoiaa.Pure
