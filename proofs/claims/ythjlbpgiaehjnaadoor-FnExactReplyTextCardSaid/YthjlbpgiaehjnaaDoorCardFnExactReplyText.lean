/- ReplyText answers as the reference does, for every id, flag and code. -/
-- written by this session's program (wip/tools/card.py)
import Derived.Test.YthjlbpgiaehjnaaDoorOwnFnExactReplyText
import Derived.Test.YthjlbpgiaehjnaaDoorTie
import Derived.Test.YthjlbpgiaehjnaaDoorCards
import Derived.SevenTiedAt
namespace Go.Proofs.YthjlbpgiaehjnaaDoor
open Go
theorem fnExactReplyTextCard_holds : Rows.FnExactReplyTextCardSaid :=
  Claim7.holds_tied_plain_at .later [] [.data, .data, .data] true (true, "aed14fae25fd32bca2270aff39f7293e0898f1a070c0b6ae0e89783661a60bbc") true
    fnExactReplyText_holds (fun _ h => by cases h) (by kernel_rfl) (fun _ h => by cases h) fnExactReplyText_row_tie rfl ⟨rfl, rfl⟩ (by kernel_rfl) rfl
    (fun f fn hf hfn => by
      obtain rfl : f = 4 := Option.some.inj ((show Tryd.prog.funcNamed Rows.fnExactReplyTextRow.func = some 4 by kernel_rfl).symm.trans hf) |>.symm
      obtain rfl : fn = Tryd.f4 := (Option.some.inj (Tryd.func4.symm.trans hfn)).symm
      exact ⟨by kernel_rfl, fun j t ht => by
        have hall : (Tryd.f4.params.toList.all fun u => !Tryd.prog.wantsStandIn u) = true := by kernel_rfl
        have hm : t ∈ Tryd.f4.params.toList := Array.mem_toList_iff.2 (Array.mem_of_getElem? ht)
        exact (show Tryd.prog.wantsStandIn t = false by simpa using List.all_eq_true.1 hall t hm)⟩)
    (by kernel_rfl)
end Go.Proofs.YthjlbpgiaehjnaaDoor
