/- Caves: who hangs together with whom; the first station of a cave. -/
import Derived.Test.YtdlbciobndpgnaaPCave
namespace Go.Proofs.Ytdlbciobndpgnaa.Pure
open Go.RowKit Go.Proofs.Ytdlbciobndpgnaa.MT Go.Proofs.YtdlbciobndpgnaaW.PrintWords Go.Proofs.YtdlbciobndpgnaaW.PrintLast Go.Proofs.YtdlbciobndpgnaaW.PrintMore
set_option linter.unusedVariables false
set_option linter.unusedSimpArgs false
theorem fire_least {ok : Bool} {a b : Int} {out : List Int} {P : Int → Prop} (hab : ok = true → (P a ↔ P b)) (h : ∀ z ∈ out, P z) : ∀ z ∈ fire ok a b out, P z := by
  intro z hz
  unfold fire at hz
  split at hz
  · rename_i hf
    unfold fires at hf
    rw [Bool.and_eq_true] at hf
    have hi := hab hf.1
    have hp : P a ∧ P b := by
      by_cases ha : a ∈ out
      · exact ⟨h a ha, hi.1 (h a ha)⟩
      · by_cases hb : b ∈ out
        · exact ⟨hi.2 (h b hb), h b hb⟩
        · simp [ha, hb] at hf
    rcases mem_insS.1 hz with rfl | hz
    · exact hp.2
    · rcases mem_insS.1 hz with rfl | hz
      · exact hp.1
      · exact h z hz
  · exact h z hz
theorem iter_least {ok : Nat → Bool} {a b : Nat → Int} {n : Nat} {P : Int → Prop} (hab : ∀ i, i < n → ok i = true → (P (a i) ↔ P (b i))) : ∀ d i (out : List Int), i + d ≤ n → (∀ z ∈ out, P z) → ∀ z ∈ iter (fun i s => fire (ok i) (a i) (b i) s) d i out, P z
  | 0, _, _, _, h => h
  | d + 1, i, out, hi, h => iter_least hab d (i + 1) _ (by omega) (fire_least (hab i (by omega)) h)
theorem passes_least {ok : Nat → Bool} {a b : Nat → Int} {n : Nat} {P : Int → Prop} (hab : ∀ i, i < n → ok i = true → (P (a i) ↔ P (b i))) : ∀ m (out : List Int), (∀ z ∈ out, P z) → ∀ z ∈ passes ok a b n m out, P z
  | 0, _, h => h
  | m + 1, out, h => passes_least hab m _ (iter_least hab n 0 out (by omega) h)
theorem iter_mem {ok : Nat → Bool} {a b : Nat → Int} {z : Int} : ∀ d i (out : List Int), z ∈ out → z ∈ iter (fun i s => fire (ok i) (a i) (b i) s) d i out
  | 0, _, _, h => h
  | d + 1, i, _, h => iter_mem d (i + 1) _ (fire_mem h)
theorem iter_closed {ok : Nat → Bool} {a b : Nat → Int} : ∀ d i (out : List Int), (∀ z ∈ iter (fun i s => fire (ok i) (a i) (b i) s) d i out, z ∈ out) → ∀ j, i ≤ j → j < i + d → ok j = true → (a j ∈ out ↔ b j ∈ out) := by
  intro d
  induction d with
  | zero => intro i out _ j h1 h2; omega
  | succ d ih =>
    intro i out h j h1 h2 hj
    have hsame : ∀ z, z ∈ fire (ok i) (a i) (b i) out ↔ z ∈ out := fun z => ⟨fun hz => h z (iter_mem d (i + 1) _ hz), fire_mem⟩
    by_cases hji : j = i
    · subst hji
      cases hf : fires (ok j) (a j) (b j) out with
      | false =>
        unfold fires at hf
        rw [hj, Bool.true_and] at hf
        by_cases ha : a j ∈ out <;> by_cases hb : b j ∈ out <;> simp [ha, hb] at hf ⊢
      | true =>
        have e : fire (ok j) (a j) (b j) out = insS (b j) (insS (a j) out) := by unfold fire; rw [if_pos hf]
        exact ⟨fun _ => (hsame _).1 (by rw [e]; exact mem_insS.2 (.inl rfl)), fun _ => (hsame _).1 (by rw [e]; exact mem_insS.2 (.inr (mem_insS.2 (.inl rfl))))⟩
    · have := ih (i + 1) (fire (ok i) (a i) (b i) out) (fun z hz => (hsame z).2 (h z hz)) j (by omega) (by omega) hj
      rwa [hsame, hsame] at this
theorem caveOf_self (l : List S65) (a : Int) : a ∈ caveOf l a := passes_mem _ (by simp)
theorem caveOf_closed (l : List S65) (a : Int) {j : Nat} (hj : j < l.length) : fromOf l j ∈ caveOf l a ↔ toOf l j ∈ caveOf l a := by
  have hs := reached_still (wideEnough (noWidths l) 0) (fromOf l) (toOf l) l.length [a]
  refine iter_closed l.length 0 (caveOf l a) (fun z hz => ?_) j (by omega) (by omega) (wide_all l j)
  have hz' : z ∈ pass (wideEnough (noWidths l) 0) (fromOf l) (toOf l) l.length (caveOf l a) := hz
  have e : pass (wideEnough (noWidths l) 0) (fromOf l) (toOf l) l.length (caveOf l a) = caveOf l a := hs
  rwa [e] at hz'
theorem caveOf_sub {l : List S65} {a b : Int} (h : b ∈ caveOf l a) : ∀ z ∈ caveOf l b, z ∈ caveOf l a :=
  passes_least (P := fun z => z ∈ caveOf l a) (fun _ hi _ => caveOf_closed l a hi) _ [b] (fun z hz => by simp at hz; subst hz; exact h)
theorem caveOf_symm {l : List S65} {a b : Int} (h : b ∈ caveOf l a) : a ∈ caveOf l b := by
  refine passes_least (P := fun z => a ∈ caveOf l z) (fun i hi _ => ?_) _ [a] (fun z hz => by simp at hz; subst hz; exact caveOf_self l z) b h
  have h1 : toOf l i ∈ caveOf l (fromOf l i) := (caveOf_closed l _ hi).1 (caveOf_self l _)
  have h2 : fromOf l i ∈ caveOf l (toOf l i) := (caveOf_closed l _ hi).2 (caveOf_self l _)
  exact ⟨fun h => caveOf_sub h2 a h, fun h => caveOf_sub h1 a h⟩
theorem caveOf_eq {l : List S65} (hl : okLegs l = true) {a b : Int} (ha : 0 ≤ a ∧ a < 8) (hb : 0 ≤ b ∧ b < 8) (h : b ∈ caveOf l a) : caveOf l b = caveOf l a := by
  have g1 := caveOf_good hl ha
  have g2 := caveOf_good hl hb
  have e1 := rising_eq g1.1 8 0 (fun z hz => by have := g1.2 z hz; omega)
  have e2 := rising_eq g2.1 8 0 (fun z hz => by have := g2.2 z hz; omega)
  rw [e1, e2]
  apply List.filter_congr
  intro z _
  rw [decide_eq_decide]
  exact ⟨fun hz => caveOf_sub h z hz, fun hz => caveOf_sub (caveOf_symm h) z hz⟩
/-- A station is the first one of its cave just if it lies in no cave of a lesser one. -/
theorem caveOf_first {l : List S65} (hl : okLegs l = true) {a : Int} (ha : 0 ≤ a ∧ a < 8) : rd (caveOf l a) 0 = a ↔ ∀ t, 0 ≤ t → t < a → a ∉ caveOf l t := by
  have g := caveOf_good hl ha
  have hs := caveOf_self l a
  obtain ⟨x, o, e⟩ : ∃ x o, caveOf l a = x :: o := by
    cases hc : caveOf l a with
    | nil => rw [hc] at hs; simp at hs
    | cons x o => exact ⟨x, o, rfl⟩
  have hx : rd (caveOf l a) 0 = x := by rw [e]; rfl
  have hmin : ∀ z ∈ caveOf l a, x ≤ z := by
    intro z hz
    have hp := g.1
    rw [e, List.pairwise_cons] at hp
    rw [e] at hz
    rcases List.mem_cons.1 hz with rfl | hz
    · omega
    · have := hp.1 z hz
      omega
  have hxm : x ∈ caveOf l a := by rw [e]; exact List.mem_cons_self
  rw [hx]
  constructor
  · rintro rfl t h0 h1 h2
    have := hmin t (caveOf_symm h2)
    omega
  · intro h
    have h1 := hmin a hs
    have h2 := g.2 x hxm
    by_cases h3 : x < a
    · exact absurd (caveOf_symm hxm) (h x h2.1 h3)
    · omega
end Go.Proofs.Ytdlbciobndpgnaa.Pure
