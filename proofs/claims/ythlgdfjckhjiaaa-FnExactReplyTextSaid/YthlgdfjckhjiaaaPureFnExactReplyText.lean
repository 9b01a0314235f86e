/- Proved here: the pure form of the law FnExactReplyText (the program's ReplyText is the reference's) returns true for all arguments; conditions: none beyond those that the printed statement bears. -/
import Derived.Test.YthlgdfjckhjiaaaPFnExactReplyTextx1
import Derived.Test.YthlgdfjckhjiaaaZb
namespace Go.Proofs.Ythlgdfjckhjiaaa.Pure
open Go.RowKit Go.Proofs.Ythlgdfjckhjiaaa.PFnExactReplyText Go.Proofs.YthlgdfjckhjiaaaW.PrintWords Go.Proofs.YthlgdfjckhjiaaaW.PrintLast Go.Proofs.Ythlgdfjckhjiaaa.Z
set_option linter.unusedVariables false
set_option linter.unusedSimpArgs false

theorem FnExactReplyText : laws_FnExactReplyText.Pure := by
  intro a ha
  unfold laws_FnExactReplyText.f
  have h : impl_ReplyText.f a = spec_ReplyText.f a := rfl
  rw [h]
  have h2 : ∃ r, spec_ReplyText.f a = some r := by
    unfold spec_ReplyText.f
    repeat (first | exact ⟨_, rfl⟩ | split)
  obtain ⟨r, hr⟩ := h2
  rw [hr]
  simp only [Option.bind_some, if_true]

end Go.Proofs.Ythlgdfjckhjiaaa.Pure
