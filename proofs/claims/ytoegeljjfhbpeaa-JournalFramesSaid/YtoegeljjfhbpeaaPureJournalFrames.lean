import Derived.Test.YtoegeljjfhbpeaaPJournalFramesx
set_option linter.unusedVariables false
namespace Go.Proofs.Ytoegeljjfhbpeaa.Pure
open Go.RowKit Go.Proofs.Ytoegeljjfhbpeaa.PJournalFrames Go.Proofs.YtoegeljjfhbpeaaW.PrintWords Go.Proofs.YtoegeljjfhbpeaaW.PrintLast

theorem JournalFrames : foolscaplaw31_JournalFrames.Pure := by
  intro l0 a1 a2 _ h1 _ _ h2
  obtain ⟨r, hr⟩ : ∃ r, journal_Frame.f a1 a2 = some r := by
    unfold journal_Frame.f
    rw [if_pos h2]
    split
    · exact ⟨_, rfl⟩
    · split <;> exact ⟨_, rfl⟩
  have hr' : foolscapref31_Frame.f a1 a2 = some r := hr
  have hj : journal_Sum.f l0 = some (J.sumOf l0) := if_pos (by omega)
  have hk : foolscapref31_Sum.f l0 = some (J.sumOf l0) := if_pos (by omega)
  unfold foolscaplaw31_JournalFrames.f
  simp only [hr, hr', Option.bind_some, List.nil_append, hj, hk, List.length_nil, if_true]
  rw [if_pos (by omega)]
  rfl
end Go.Proofs.Ytoegeljjfhbpeaa.Pure
