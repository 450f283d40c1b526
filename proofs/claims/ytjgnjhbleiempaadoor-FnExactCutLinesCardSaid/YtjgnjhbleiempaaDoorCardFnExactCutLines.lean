/- CutLines answers what the reference answers, for all texts and bytes, leaves its arguments as they were and shares no memory with them; the variables of the library start as the text of the program lays them (the card ties them, over the pruned copy of the project). -/
-- written by this session's program (wip/tools/card.py)
import Derived.Test.YtjgnjhbleiempaaDoorOwnFnExactCutLines
import Derived.Test.YtjgnjhbleiempaaDoorTie
import Derived.Test.YtjgnjhbleiempaaDoorCards
import Derived.SevenTiedAt
namespace Go.Proofs.YtjgnjhbleiempaaDoor
open Go
theorem fnExactCutLinesCard_holds : Rows.FnExactCutLinesCardSaid :=
  Claim7.holds_tied_plain_at .later [] [.data, .pinned] true (true, "17a2dc44317a36084b64faedf8bb068f0a2a1be0f47f1ffb9962155fb8b67a2d") false
    fnExactCutLines_holds (fun _ h => by cases h) (by kernel_rfl) (fun _ h => by cases h) fnExactCutLines_row_tie rfl ⟨rfl, rfl⟩ (by kernel_rfl) rfl
    (fun f fn hf hfn => by
      obtain rfl : f = 3 := Option.some.inj ((show Tryd.prog.funcNamed Rows.fnExactCutLinesRow.func = some 3 by kernel_rfl).symm.trans hf) |>.symm
      obtain rfl : fn = Tryd.f3 := (Option.some.inj (Tryd.func3.symm.trans hfn)).symm
      exact ⟨by kernel_rfl, fun j t ht => by
        have hall : (Tryd.f3.params.toList.all fun u => !Tryd.prog.wantsStandIn u) = true := by kernel_rfl
        have hm : t ∈ Tryd.f3.params.toList := Array.mem_toList_iff.2 (Array.mem_of_getElem? ht)
        exact (show Tryd.prog.wantsStandIn t = false by simpa using List.all_eq_true.1 hall t hm)⟩)
    (by kernel_rfl)
end Go.Proofs.YtjgnjhbleiempaaDoor
