/- Which functions there are is as the document says: the card of ListKnowns holds: for every name and number, the listed tables being as the program's text lays them. (A part of the way there: Law, Post and what follows.) -/
import Derived.Test.YtgfdikdjbnigeaaGreatDoorA05
import Derived.ChangeSame
import Derived.RowKit
set_option linter.all false
set_option linter.deprecated false
namespace Go.AM
open Go

/-! # From the limit to the machine -/

/-- What was there is as it was. -/
structure Kept (w w' : World) : Prop where
  size : w.heap.size ≤ w'.heap.size
  old : ∀ b, b < w.heap.size → w'.heap[b]? = w.heap[b]?
  os : w'.os = w.os
  output : w'.output = w.output

section
variable {P : Program} {gl : List (Nat × D)} {C : Cfg}

theorem start_inv (w : World) : Inv P w (fun b => b < w.heap.size) (fun _ _ => none) st0.rows st0.next := by
  refine ⟨?_, ?_, ?_, ?_, fun b h => h, ?_, ?_⟩
  · intro id r h; simp [st0, find] at h
  · intro id e gb h; simp at h
  · intro id r h; simp [st0, find] at h
  · intro id id' r r' b h; simp [st0, find] at h
  · rintro b ⟨id, r, h, _⟩; simp [st0, find] at h
  · intro id e t xs h; simp [st0, find] at h

/-- A law that is true at the limit. -/
theorem law_calls (hC : CfgOk P gl C) {f : FuncId} {fn : CFn} (hf : C.fn f = some fn) {args : List V} {st' : St} (h : EI C f args st0 = some (.ret (.d (.bool true)), st')) {w : World} {args' : Array Value}
    (hg : GlobR w.heap (fun b => b < w.heap.size) gl) (ra : Reps w.heap (fun b => b < w.heap.size) (fun _ _ => none) args args') : Calls P f args' w fun e w' => e = .returned (.bool true) ∧ Kept w w' := by
  obtain ⟨n, hn⟩ := EI_iff.1 h
  have hcall := (env_ok hC n).1 f args st0 _ st' w _ _ args' hn rfl rfl (start_inv w) hg ra
  have key : ∀ e w', CallR P w (fun b => b < w.heap.size) (fun _ _ => none) st0 (.ret (.d (.bool true))) st' e w' → e = .returned (.bool true) ∧ Kept w w' := by
    intro e w' he
    cases e with
    | returned u =>
      obtain ⟨F', G', v, hr, c, rv⟩ := he
      simp only [Res.ret.injEq] at hr
      subst hr
      have hno : ∀ b, ¬ owns st0.rows (fun _ _ => none) b := by rintro b ⟨id, r, h, _⟩; simp [st0, find] at h
      refine ⟨?_, c.ext.size, fun b hb => c.ext.keep b hb (hno b), c.ext.os, c.ext.output⟩
      have := rv.inv_d
      cases this
      rfl
    | panicked ch => obtain ⟨_, _, _, _, hr, _⟩ := he; simp at hr
    | outgrown => exact he.elim
  rcases hcall with ⟨_, h2⟩ | ⟨u, w', h1, _⟩
  · exact h2.mono key
  · obtain ⟨fc, hn', c, ok⟩ := hC.fn f fn hf
    rw [callFunc_enter ok.func ok.body ok.name] at h1
    simp at h1

end

theorem Kept.kept {w w' : World} (h : Kept w w') (may : MemPlace → Prop) : w.keptBut w' may := by
  refine ⟨h.os, h.output, fun i hi => ?_⟩
  rw [h.old i hi]
  split
  · rename_i e1 e2
    rw [e1] at e2
    simp only [Option.some.injEq, Obj.cells.injEq] at e2
    obtain ⟨rfl, rfl, rfl⟩ := e2
    exact ⟨rfl, rfl, rfl, fun _ _ => rfl⟩
  · rename_i e1 e2
    rw [e1] at e2
    simp only [Option.some.injEq, Obj.map.injEq] at e2
    obtain ⟨rfl, rfl⟩ := e2
    exact .inr ⟨rfl, rfl⟩
  · rfl

theorem Kept.frozen {w w' : World} (h : Kept w w') {a : Addr} (ha : a.block < w.heap.size) : w'.frozen? a = w.frozen? a := by
  unfold World.frozen?
  rw [h.old _ ha]

end Go.AM
namespace Go.AM
open Go Go.ChangeShapes Go.WideShapes

section
variable {H : Type} {enc : TypeId × Value → H} {P : Program}

/-- What was there is kept: the row's condition behind the call. (Frozen places are asked of what was there alone.) -/
theorem post_kept {f : Func} {s : ChangeSpec} {apart fresh handsOn again : Bool} {W W' : World} {args : Array Value} {v : Value} {ds gs : List (DataW H)} {before pa pv : List MemPlace}
    (hW : DataW.Whole enc P f.params.toList s.vars apart W args.toList ds gs before) (hg : Kept W W')
    (hres : ∀ (b : Nat) (sp : Nat → Bool) (hd : Bool), DataW.TrodAll enc P W' b sp hd f.resultTypes.toList (v.resultList f.resultTypes.size) (s.fn H (ds ++ gs)).results [])
    (hargs : ∀ sp : Nat → Bool, (∀ p ∈ before, sp p.block = true) → DataW.TrodAll enc P W' 0 sp true f.params.toList args.toList (s.fn H (ds ++ gs)).args pa)
    (hvars : ∀ sp : Nat → Bool, (∀ p ∈ before, sp p.block = true) → DataW.TrodVars enc P W' sp s.vars (s.fn H (ds ++ gs)).vars pv)
    (hps : before = pa ++ pv)
    (hok : ∀ (j : Nat) (t : TypeId) (r : Value), f.resultTypes[j]? = some t → (v.resultList f.resultTypes.size)[j]? = some r → Value.okWide P W' .any 0 t r) :
    s.post enc P f apart fresh handsOn again W args v W' := by
  subst hps
  have lt := hW.lt
  have hold : ∀ p ∈ pa ++ pv, (fun b => decide (b < W.heap.size)) p.block = true := fun p hp => by simpa using lt p hp
  obtain ⟨_, _, _, _, _, frz, one⟩ := id hW
  have hboth := trodAll_append (hargs (fun _ => true) (fun _ _ => rfl)) (hres 0 (fun _ => true) true)
  simp only [List.nil_append] at hboth
  refine ⟨ds, gs, _, [], pa, pv, hW, hres _ _ _, hargs _ hold, hvars _ hold, World.keptBut_mono (fun p hp => hp.elim) (hg.kept fun _ => False), fun _ => ?_⟩
  refine ⟨hok, _, _, pa ++ pv, ⟨pa, pv, hboth, hvars _ (fun _ _ => rfl), rfl, ?_, one⟩, fun p hp _ => hp⟩
  intro b off hp
  rw [hg.frozen (lt _ hp)]
  exact frz b off hp

end
end Go.AM
