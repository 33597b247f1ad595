/- Votes: the program answers as the reference. -/
import Derived.Test.YtlkphdcfgaolnaaLSensorVotes
namespace Go.Proofs.Ytlkphdcfgaolnaa.Pure
open Go.RowKit Go.Proofs.Ytlkphdcfgaolnaa.P Go.Proofs.YtlkphdcfgaolnaaW.PrintWords Go.Proofs.YtlkphdcfgaolnaaW.PrintLast Go.Proofs.YtlkphdcfgaolnaaW.PrintMore
set_option linter.unusedSimpArgs false
set_option linter.unusedVariables false
theorem SensorVotes : q_SensorVotes.Pure := by
  intro a0 a1 a2 b0 b1 b2 c0 c1 c2 _ _ _ _ _ _
  refine ⟨60, ?_⟩
  have hk : q_awake.f 60 = some true := by decide +kernel
  have e1 : ref_Vote.f a0 a1 a2 b0 b1 b2 c0 c1 c2 = sensor_Vote.f a0 a1 a2 b0 b1 b2 c0 c1 c2 := rfl
  have e2 : ref_Odd.f a0 a1 a2 b0 b1 b2 c0 c1 c2 = sensor_Odd.f a0 a1 a2 b0 b1 b2 c0 c1 c2 := rfl
  obtain ⟨v, hv⟩ : ∃ v, sensor_Vote.f a0 a1 a2 b0 b1 b2 c0 c1 c2 = some v := by
    unfold sensor_Vote.f
    split <;> exact ⟨_, rfl⟩
  obtain ⟨o, ho⟩ : ∃ o, sensor_Odd.f a0 a1 a2 b0 b1 b2 c0 c1 c2 = some o := by
    unfold sensor_Odd.f
    split <;> exact ⟨_, rfl⟩
  unfold q_SensorVotes.f
  rw [e1, e2, hv, ho, Option.bind_some, Option.bind_some, Option.bind_some, Option.bind_some, if_pos (by simp), if_pos rfl, if_pos rfl, if_pos rfl, hk, Option.bind_some, if_pos rfl]
end Go.Proofs.Ytlkphdcfgaolnaa.Pure
