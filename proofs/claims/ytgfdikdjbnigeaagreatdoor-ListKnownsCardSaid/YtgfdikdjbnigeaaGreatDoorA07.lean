/- Which functions there are is as the document says: the card of ListKnowns holds: for every name and number, the listed tables being as the program's text lays them. (A part of the way there: ListF and what follows.) -/
import Derived.Test.YtgfdikdjbnigeaaGreatDoorA06
import Derived.Test.YtgfdikdjbnigeaaGreatDoorRows
import Derived.JoinedOf
import Derived.JoinedCond
import Derived.SevenTiedAt
set_option linter.all false
set_option linter.deprecated false
namespace Go.Proofs.YtgfdikdjbnigeaaGreatDoor.listKnowns
theorem k10 : (Tryz.pinned.checked.prog).inPlace 3 = Rows.listKnownsRow.inPlace := by kernel_rfl
theorem k11 : (Tryz.pinned.checked.prog).unfollowed 3 = Rows.listKnownsRow.unfollowed := by kernel_rfl
theorem k12 : (Tryz.pinned.checked.prog).recurses 3 = Rows.listKnownsRow.recurses := by kernel_rfl
theorem k13 : (Tryz.pinned.checked.prog).varsNamed 3 = Rows.listKnownsRow.named := by kernel_rfl
theorem k2 : laidOutB (Tryz.pinned.checked.prog) = true := by kernel_rfl
theorem k3 : mapsRowed (Tryz.pinned.checked.prog) = true := by kernel_rfl
theorem closed : joinedFacts Tryz.pinned.checked.prog 3 Tryz.f3 (OpenSpec.ofChange Rows.listKnownsSpec).bare Rows.listKnownsRow = true := by
  unfold joinedFacts
  rw [k10, k11, k12, k13, k2, k3]
  kernel_rfl
end Go.Proofs.YtgfdikdjbnigeaaGreatDoor.listKnowns
