/- Which functions there are is as the document says: the card of ListKnowns holds: for every name and number, the listed tables being as the program's text lays them. (A part of the way there: ListG and what follows.) -/
import Derived.Test.YtgfdikdjbnigeaaGreatDoorA07
import Derived.Test.YtgfdikdjbnigeaaGreatDoorRows
import Derived.JoinedOf
import Derived.JoinedCond
import Derived.SevenTiedAt
set_option linter.all false
set_option linter.deprecated false
namespace Go.Proofs.YtgfdikdjbnigeaaGreatDoor.listKnowns
theorem go0 : ((Tryz.prog.funcs.toList.drop 0).take 60).any Func.goes = false := by kernel_rfl
theorem go1 : ((Tryz.prog.funcs.toList.drop 60).take 60).any Func.goes = false := by kernel_rfl
theorem go2 : ((Tryz.prog.funcs.toList.drop 120).take 60).any Func.goes = false := by kernel_rfl
theorem go3 : ((Tryz.prog.funcs.toList.drop 180).take 60).any Func.goes = false := by kernel_rfl
theorem go4 : ((Tryz.prog.funcs.toList.drop 240).take 60).any Func.goes = false := by kernel_rfl
theorem go5 : ((Tryz.prog.funcs.toList.drop 300).take 60).any Func.goes = false := by kernel_rfl
theorem go6 : ((Tryz.prog.funcs.toList.drop 360).take 60).any Func.goes = false := by kernel_rfl
theorem go7 : ((Tryz.prog.funcs.toList.drop 420).take 60).any Func.goes = false := by kernel_rfl
theorem go8 : ((Tryz.prog.funcs.toList.drop 480).take 60).any Func.goes = false := by kernel_rfl
theorem go9 : ((Tryz.prog.funcs.toList.drop 540).take 60).any Func.goes = false := by kernel_rfl
theorem goN : (Tryz.prog.funcs.toList.drop 600).isEmpty = true := by kernel_rfl
theorem any_parts {l : List Func} {n : Nat} (h : (l.take n).any Func.goes = false) (h2 : (l.drop n).any Func.goes = false) : l.any Func.goes = false := by
  have := List.take_append_drop n l
  rw [← this, List.any_append, h, h2]; rfl
theorem any_all : Tryz.prog.funcs.toList.any Func.goes = false := by
  have e : (Tryz.prog.funcs.toList.drop 600).any Func.goes = false := by
    have := goN
    rw [List.isEmpty_iff] at this
    rw [this]; rfl
  have e : (Tryz.prog.funcs.toList.drop 540).any Func.goes = false := any_parts (n := 60) go9 (by rw [List.drop_drop]; exact e)
  have e : (Tryz.prog.funcs.toList.drop 480).any Func.goes = false := any_parts (n := 60) go8 (by rw [List.drop_drop]; exact e)
  have e : (Tryz.prog.funcs.toList.drop 420).any Func.goes = false := any_parts (n := 60) go7 (by rw [List.drop_drop]; exact e)
  have e : (Tryz.prog.funcs.toList.drop 360).any Func.goes = false := any_parts (n := 60) go6 (by rw [List.drop_drop]; exact e)
  have e : (Tryz.prog.funcs.toList.drop 300).any Func.goes = false := any_parts (n := 60) go5 (by rw [List.drop_drop]; exact e)
  have e : (Tryz.prog.funcs.toList.drop 240).any Func.goes = false := any_parts (n := 60) go4 (by rw [List.drop_drop]; exact e)
  have e : (Tryz.prog.funcs.toList.drop 180).any Func.goes = false := any_parts (n := 60) go3 (by rw [List.drop_drop]; exact e)
  have e : (Tryz.prog.funcs.toList.drop 120).any Func.goes = false := any_parts (n := 60) go2 (by rw [List.drop_drop]; exact e)
  have e : (Tryz.prog.funcs.toList.drop 60).any Func.goes = false := any_parts (n := 60) go1 (by rw [List.drop_drop]; exact e)
  have e : (Tryz.prog.funcs.toList.drop 0).any Func.goes = false := any_parts (n := 60) go0 (by rw [List.drop_drop]; exact e)
  simpa using e
theorem goes : false = Rows.listKnownsRow.goesBy Tryz.pinned.checked.prog := by
  have ha : Tryz.prog.funcs.any Func.goes = false := by rw [← Array.any_toList]; exact any_all
  have h1 : ∀ f, Tryz.prog.goes f = false := by
    intro f
    unfold Program.goes
    rw [ha, Bool.and_false, Bool.or_false, List.any_eq_false]
    intro g _
    cases hg : Tryz.prog.funcs[g]? with
    | none => simp
    | some fn =>
      have : fn ∈ Tryz.prog.funcs := Array.mem_of_getElem? hg
      have h2 := Array.any_eq_false'.1 ha fn this
      simpa using h2
  have h2 : Rows.listKnownsRow.goesBy Tryz.pinned.checked.prog = (Tryz.prog.funcNamed Rows.listKnownsRow.func).any Tryz.prog.goes := by
    show (Tryz.prog.goesFrom Rows.listKnownsRow.func || false) = _
    rw [Bool.or_false]; rfl
  rw [h2]
  cases Tryz.prog.funcNamed Rows.listKnownsRow.func with
  | none => rfl
  | some f => simp [h1]
end Go.Proofs.YtgfdikdjbnigeaaGreatDoor.listKnowns
