/- OfferLists holds: for every list of offers CheckAll returns the first error that the reference finds; no condition. -/
import Derived.Test.YtdhboohbifmbnaaBOfferLists
import Derived.Test.YtdhboohbifmbnaaRowOfferLists
namespace Go.Proofs.Ytdhboohbifmbnaa.FOfferLists
open Go.RowKit Go.Proofs.YtdhboohbifmbnaaW.PrintWords Go.Proofs.YtdhboohbifmbnaaW.PrintMore Go.Proofs.Ytdhboohbifmbnaa.Evs Go.Proofs.Ytdhboohbifmbnaa.POfferLists Go.Proofs.Ytdhboohbifmbnaa.BOfferLists
set_option linter.unusedVariables false
set_option linter.unusedSimpArgs false
theorem j0 (l : List Of) (b : Bool) (hb : b = false) : Evt (fun k => gridhalllaw3_OfferLists.j0 k l b) true := by
  subst hb
  refine Evt.succ ?_
  simp only [gridhalllaw3_OfferLists.j0]
  refine Evt.ite_neg (by simp) (Evt.bind (offer_CheckAll_ev l) (Evt.bind (gridhallref3_OffersError_ev l) ?_))
  exact Evt.of_eq (by simp)
theorem pure : Go.Proofs.Ytdhboohbifmbnaa.ROfferLists.Pure := by
  intro l _
  refine Evt.ex ?_
  simp only [gridhalllaw3_OfferLists.f, gridhalllaw3_two.f, Option.bind_some]
  refine Evt.bind (offer_CheckAll_ev _) ?_
  have e : offsErr [(⟨⟨#[65]⟩, [⟨10, 5⟩, ⟨10, 8⟩]⟩ : Of), ⟨⟨#[65]⟩, [⟨10, 5⟩, ⟨10, 8⟩]⟩] = 7 := by
    have h1 : sameN [(⟨⟨#[65]⟩, [⟨10, 5⟩, ⟨10, 8⟩]⟩ : Of), ⟨⟨#[65]⟩, [⟨10, 5⟩, ⟨10, 8⟩]⟩] ⟨#[65]⟩ 1 0 = true := by
      simp only [sameN, Bool.or_false]
      exact decide_eq_true rfl
    have h2 : offErr ⟨#[65]⟩ [(⟨10, 5⟩ : St), ⟨10, 8⟩] = 0 := by decide +kernel
    unfold offsErr
    rw [if_neg (by simp)]
    have s1 : ∀ L : List Of, offErr (nmO L 1) (stO L 1) = 0 → sameN L (nmO L 1) 1 0 = true → offsStep L 1 1 = 7 := by
      intro L a b
      simp only [offsStep]
      rw [if_pos a, if_pos b]
    have s0 : ∀ L : List Of, offErr (nmO L 0) (stO L 0) = 0 → offsStep L 1 1 = 7 → offsStep L 2 0 = 7 := by
      intro L a b
      have c : sameN L (nmO L 0) 0 0 = false := rfl
      simp only [offsStep] at b ⊢
      rw [if_pos a, if_neg (by simp [c])]
      exact b
    exact s0 _ h2 (s1 _ h2 h1)
  rw [e]
  refine Evt.ite_pos rfl (Evt.bind costs_ev ?_)
  exact j0 l _ rfl
theorem OfferLists_holds : Rows.OfferListsSaid := Go.Proofs.Ytdhboohbifmbnaa.ROfferLists.said pure
#print axioms OfferLists_holds
end Go.Proofs.Ytdhboohbifmbnaa.FOfferLists
