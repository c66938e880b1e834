/- The document's further examples, and errors. -/
import Derived.Test.YtaimlmfncjbmjaaW3
namespace Lp
def dipA : List Dip := [⟨0, 16, 20⟩]
def dipB : List Dip := [⟨0, 0, 4⟩]
theorem fwd1_dipA : fwd tankS (planP 0 1 1 2) dipA 1 = cut 16 20 := by
  refine bound_any (fun x hx => ?_) (fun x hx => fwd_hi fine_tank (by decide) x hx) (fun x hx => by simp [cut]; omega)
  show step0 tankS (planP 0 1 1 2) dipA 0 (fwd tankS (planP 0 1 1 2) dipA 0) 401 x = _
  rw [fwd0_tank, step_cut (cut_in (by decide)) (by decide)]
  revert x
  decide +kernel
theorem fwd2_dipA : fwd tankS (planP 0 1 1 2) dipA 2 = cut 50 54 := by
  refine bound_any (fun x hx => ?_) (fun x hx => fwd_hi fine_tank (by decide) x hx) (fun x hx => by simp [cut]; omega)
  show step0 tankS (planP 0 1 1 2) dipA 1 (fwd tankS (planP 0 1 1 2) dipA 1) 401 x = _
  rw [fwd1_dipA, step_cut (cut_in (by decide)) (by decide)]
  revert x
  decide +kernel
theorem lev1_dipA : levelAt tankS (planP 0 1 1 2) dipA 2 1 = cut 50 54 := by
  show fwd tankS (planP 0 1 1 2) dipA 2 = _
  exact fwd2_dipA
theorem lev0_dipA : levelAt tankS (planP 0 1 1 2) dipA 2 0 = cut 16 20 := by
  rw [levelAt_step _ _ _ _ _ (by decide), lev1_dipA, fwd1_dipA]
  funext x
  unfold onB
  by_cases hx : x < 401
  · revert x; decide +kernel
  · have : cut 16 20 x = false := by simp [cut]; omega
    rw [this]; rfl
theorem ok_dipA : levelsOk tankS (planP 0 1 1 2) dipA = true := by
  unfold levelsOk
  rw [List.all_eq_true]
  intro i hi
  have hi := List.mem_range.1 hi
  have : i = 0 ∨ i = 1 := by simp [tankS] at hi; omega
  rcases this with rfl | rfl
  · rw [fwd1_dipA, none_cut (by decide) (by decide)]; rfl
  · rw [fwd2_dipA, none_cut (by decide) (by decide)]; rfl
theorem nm_oil : oilE tankS (planP 0 1 1 2) dipA = 0 ∧ oilR tankS (planP 0 1 1 2) dipA = [⟨16, 20⟩, ⟨50, 54⟩] := by
  have h1 : dippedE tankS (planP 0 1 1 2) dipA = 0 := by decide
  have h2 : oilE tankS (planP 0 1 1 2) dipA = 0 := by simp [oilE, h1, ok_dipA]
  refine ⟨h2, ?_⟩
  unfold oilR
  rw [if_pos h2]
  show [ends (levelAt tankS (planP 0 1 1 2) dipA 2 0), ends (levelAt tankS (planP 0 1 1 2) dipA 2 1)] = _
  rw [lev0_dipA, lev1_dipA, ends_cut (by decide) (by decide), ends_cut (by decide) (by decide)]
  rfl
theorem fwd1_dipB : fwd tankS (planP 0 1 1 2) dipB 1 = cut 1 0 := by
  refine bound_any (fun x hx => ?_) (fun x hx => fwd_hi fine_tank (by decide) x hx) (fun x hx => by simp [cut]; omega)
  show step0 tankS (planP 0 1 1 2) dipB 0 (fwd tankS (planP 0 1 1 2) dipB 0) 401 x = _
  rw [fwd0_tank, step_cut (cut_in (by decide)) (by decide)]
  revert x
  decide +kernel
theorem nm_bad : oilE tankS (planP 0 1 1 2) dipB = 9 := by
  have h1 : dippedE tankS (planP 0 1 1 2) dipB = 0 := by decide
  have h2 : levelsOk tankS (planP 0 1 1 2) dipB = false := by
    refine List.all_eq_false.2 ⟨0, by decide, ?_⟩
    have : none_ (fwd tankS (planP 0 1 1 2) dipB 1) = true := (none_iff _).2 fun x hx => by
      rw [fwd1_dipB]; simp [cut]; omega
    rw [this]; simp
  simp [oilE, h1, h2]
theorem nm_leave : leaveE tankS (planP 0 1 1 2) [] = 0 ∧ leaveR tankS (planP 0 1 1 2) [] = [] := by
  have h1 : dippedE tankS (planP 0 1 1 2) [] = 0 := by decide
  refine ⟨h1, ?_⟩
  have k0 : leaveT tankS (planP 0 1 1 2) [] 0 [] 0 = some [] := by
    unfold leaveT
    show (if levelsOk tankS (planP 0 1 1 2) [] = true then some [] else none) = some ([] : List Int)
    rw [ok_free]; rfl
  have k : leaveS tankS (planP 0 1 1 2) [] = some [] := by
    unfold leaveS
    have : List.range (([] : List Dip).length + 1) = [0] := rfl
    rw [this, List.findSome?_cons, k0]
  unfold leaveR
  rw [if_pos h1, k]; rfl
theorem nm_deliver : deliverE tankS [2, 2] = 0 ∧ deliverC tankS [2, 2] = 1 ∧ deliverR tankS [2, 2] = [1, 0] := by decide
theorem nm_trim : trimE tankS [0, 1] = 0 ∧ trimC tankS [0, 1] = 13 ∧ trimR tankS [0, 1] = [1, 2] := by decide
theorem nm_prove : provePlan tankS (planP 0 1 1 2) = true ∧ provePlan tankS (planP 0 0 1 2) = false ∧ provePlan tankS (planP 0 3 1 2) = false := by decide
theorem nm_trimE : trimE tankS [0, 0] = 10 := by decide
theorem nm_playE : playE tankS (planP 0 1 1 2) ⟨31, [3, 2]⟩ = 2 := by decide
theorem nm_darkE : check tankS (planP 0 1 4 2) = 2 := by decide
theorem nm_leave7 : leaveE tankS (planP 0 1 1 2) (List.replicate 7 ⟨0, 0, 0⟩) = 3 := by decide
theorem nm_leave2 : leaveE tankS (planP 0 1 1 2) [⟨2, 0, 0⟩] = 2 := by decide
theorem nm_deliverE : deliverE tankS [1] = 2 := by decide
theorem nm_check : checkStore ⟨401, 50, 20, 30, tankS.nights⟩ = 1 ∧ checkStore ⟨100, 0, 20, 30, tankS.nights⟩ = 1 ∧ checkStore ⟨100, 50, 20, 101, tankS.nights⟩ = 1 ∧
    checkStore ⟨100, 50, 20, 30, [⟨15, 1, 3, 2, 3⟩, ⟨4, 1, 2, 2, 2⟩]⟩ = 1 ∧ checkStore ⟨100, 50, 20, 30, [⟨5, 4, 3, 2, 3⟩, ⟨4, 1, 2, 2, 2⟩]⟩ = 1 ∧
    checkStore ⟨100, 50, 20, 30, List.replicate 7 ⟨0, 0, 0, 0, 0⟩⟩ = 3 ∧ checkStore ⟨0, 0, 0, 0, []⟩ = 1 := by decide
end Lp
