/- Which functions there are is as the document says: the card of ListKnowns holds: for every name and number, the listed tables being as the program's text lays them. -/
import Derived.Test.YtgfdikdjbnigeaaGreatDoorA08
import Derived.Test.YtgfdikdjbnigeaaGreatDoorCards
import Derived.Eval
import Derived.Laws.Externs
import Derived.ProofKit
import Derived.OpenShut
import Derived.JoinedCond
import Derived.Deep.DeepHandedRow
import Derived.SevenTiedAt
set_option linter.all false
set_option linter.deprecated false
namespace Go.Proofs.YtgfdikdjbnigeaaGreatDoor.listKnowns
open Go.ChangeShapes Go.WideShapes Go.ChangeAt Go.RowKit Go.AM Go.ChangeMaps
set_option linter.unusedVariables false

theorem own : ownKnob Tryz.prog.godebug = none := by kernel_rfl

/-! ## Library functions without a body -/
theorem same_snd {P : Program} {f : FuncId} (hrun : ∀ (u : Value) (w : World), (callFunc f #[u]).run P w = .ok (.value u) w) {args : List V} {st st' : St} {v : V} {w : World} {F : Nat → Prop} {G : Gh} {args' : Array Value}
    (h : (match args with | [x] => Pg.ret x | _ => .fail : Pg V).run st = some (v, st')) (hi : Inv P w F G st.rows st.next) (ra : Reps w.heap F G args args') :
    ∃ u w' F' G', (callFunc f args').run P w = .ok (.value u) w' ∧ Chain P w F G (owns st.rows G) w' F' G' st' ∧ RepV w'.heap F' G' v u := by
  split at h
  · rename_i x
    simp only [Pg.run, Option.some.injEq, Prod.mk.injEq] at h
    obtain ⟨rfl, rfl⟩ := h
    have hsz : args'.size = 1 := ra.1
    obtain ⟨u, rfl⟩ : ∃ u, args' = #[u] := by
      match args', hsz with
      | ⟨[u]⟩, _ => exact ⟨u, rfl⟩
    exact ⟨u, w, F, G, hrun u w, Chain.refl hi, ra.2 0 x u rfl rfl⟩
  · simp [Pg.run] at h

theorem cfgOk : CfgOk Tryz.prog AMz.gl AMz.cfg := by
  refine cfgOf_ok Tryz.checked.mixed AMz.fnsOk ?_
  intro f g hg args st v st' w F G args' h hi _ ra
  have hg : AMz.spz f = some g := hg
  unfold AMz.spz at hg
  cases hf : Nat.beq f 310 with
  | true =>
    rw [hf] at hg
    have := Nat.eq_of_beq_eq_true hf
    subst this
    have hg := Option.some.inj hg
    subst hg
    refine same_snd ?_ h hi ra
    intro u w
    rw [run_callFunc_extern Tryz.func310 (by kernel_rfl) (by kernel_rfl) (by kernel_rfl) (e := Extern.AbiNoEscape.same) (by kernel_rfl)]
    have : (Extern.AbiNoEscape.same #[u]).run Tryz.prog w = .ok u w := rfl
    rw [this]
    rfl
  | false =>
    rw [hf] at hg
    simp only [cond_false] at hg
    cases hf2 : Nat.beq f 340 with
    | false => rw [hf2] at hg; simp at hg
    | true =>
      rw [hf2] at hg
      have := Nat.eq_of_beq_eq_true hf2
      subst this
      have hg := Option.some.inj hg
      subst hg
      refine nz_snd (t := 146) (e := 5) (ps := #[3]) (by kernel_rfl) (by kernel_rfl) ?_ h hi ra
      intro a w
      rw [run_callFunc_extern Tryz.func340 (by kernel_rfl) (by kernel_rfl) (by kernel_rfl) (e := Extern.BytealgMakeNoZero.makeNoZero #[3] #[146]) (by kernel_rfl)]

/-! ## From the limit to the row -/
abbrev txt (a : List UInt8) : V := .d (.str a)

set_option maxRecDepth 100000 in
theorem contract (H : Type) (enc : TypeId × Value → H) (W : World) (base : Nat) (args : Array Value) (ds gs : List (DataW H)) (before : List MemPlace)
    (hval : ∀ (j : Nat) t v, Tryz.f3.params[j]? = some t → args[j]? = some v → Value.okWide Tryz.prog W .any base t v)
    (hW : DataW.Whole enc Tryz.prog Tryz.f3.params.toList Rows.listKnownsSpec.vars false W args.toList ds gs before) :
    Calls Tryz.prog 3 args W fun e W' => ∃ v, e = .returned v ∧ Rows.listKnownsSpec.post enc Tryz.prog Tryz.f3 false true false false W args v W' := by
  have hW' := hW
  obtain ⟨p, q, hA0, hV, rfl, hfz, hnd⟩ := hW
  have hA : DataW.TrodAll enc Tryz.prog W 0 (fun _ => true) true Tryz.f3.params.toList args.toList ds p := hA0
  rw [Tryz.params3] at hA hval
  obtain ⟨v0, vs0, d0, ds0, p0, q0, hargs, rfl, rfl, h0, r0⟩ := trodAll_cons hA
  obtain ⟨v1, vs1, d1, ds1, p1, q1, rfl, rfl, rfl, h1, r1⟩ := trodAll_cons r0
  obtain ⟨rfl, rfl, rfl⟩ := trodAll_nil r1
  obtain rfl : args = #[v0, v1] := by cases args; simp_all
  obtain ⟨rfl, rfl⟩ := trodVars_none hV
  obtain ⟨a0, rfl, rfl, rfl, w0⟩ := open_string Tryz.underlying9 (hval 0 9 v0 rfl rfl) h0
  obtain ⟨n, rfl, rfl, rfl, w1⟩ := open_int Tryz.underlying3 (hval 1 3 v1 rfl rfl) h1
  clear hA0
  simp only [List.append_nil] at hW'
  have hst := AMz.law_ok a0.data.toList n
  have ra : Reps W.heap (fun b => b < W.heap.size) (fun _ _ => none) [txt a0.data.toList, ci n] #[.string a0, .int .i64 n] :=
    Reps.cons (.d _ _ (.str _)) (Reps.cons (.d _ _ (.int _ _)) Reps.nil)
  refine (law_calls cfgOk (fn := AMz.C3) rfl hst (fun g x h => by simp [AMz.gl, globAt] at h) ra).mono fun e W' ⟨he, hg⟩ => ?_
  subst he
  exact ⟨_, rfl, post_kept (pa := []) (pv := []) hW' hg (fun _ _ _ => trodAll_cons_mk (shut_bool Tryz.underlying4 _) trodAll_mk0)
    (fun sp _ => trodAll_cons_mk (shut_string Tryz.underlying9 w0) (trodAll_cons_mk (shut_int Tryz.underlying3 w1) trodAll_mk0)) (fun _ _ => rfl) rfl
    (ok_one (by kernel_rfl) rfl (okWide_bool_mk Tryz.underlying4 _))⟩

/-! ## A world in which the listed variables hold what they are listed with -/
def flat : Nat → DataW Unit → List Value
  | 0, _ => []
  | n + 1, d => match d with
    | .lit (.bool b) => [.bool b]
    | .lit (.int k x) => [.int k x]
    | .lit (.string s) => [.string ⟨s.toArray⟩]
    | .agg ps => ps.flatMap (flat n)
    | _ => []
def errText : DataW Unit → Value
  | .iface _ (.ptr (.agg [.lit (.string s)])) => .string ⟨s.toArray⟩
  | _ => .nilIface
def withCells (h : Array Obj) (g : Nat) (cs : List Value) : Array Obj := h.modify g fun
  | .cells _ t frozen => .cells cs.toArray t frozen
  | o => o
noncomputable def world0 (os : Os) : World := World.holding Tryz.prog os ⟨#[], #[], []⟩
noncomputable def laidWorld (os : Os) : World :=
  let n := (world0 os).heap.size
  let h := (world0 os).heap
  let h := withCells h 1 (flat 4 Rows.laid_internal_strconv_uint64pow10)
  let h := withCells h 7 (flat 4 Rows.laid_math_bits_deBruijn32tab)
  let h := withCells h 8 (flat 4 Rows.laid_math_bits_deBruijn64tab)
  let h := withCells h 5 (flat 4 Rows.laid_unicode_utf8_first)
  let h := withCells h 6 (flat 4 Rows.laid_unicode_utf8_acceptRanges)
  let h := withCells h 2 [.iface 452 (.pointer (some ⟨n, 0, none⟩))]
  let h := withCells h 3 [.iface 452 (.pointer (some ⟨n + 1, 0, none⟩))]
  let h := withCells h 4 [.iface 452 (.pointer (some ⟨n + 2, 0, none⟩))]
  { world0 os with heap := ((h.push (.cells #[errText Rows.laid_strconv_ErrSyntax] 454 (0, 0))).push (.cells #[errText Rows.laid_strconv_ErrRange] 454 (0, 0))).push (.cells #[errText Rows.laid_bytes_ErrTooLarge] 454 (0, 0)) }
theorem laid_met (os : Os) : laidMet Tryz.prog Rows.listKnownsRow.laid ((laidWorld os).forCall (fun _ _ => 0) ⟨#[], #[.string ⟨#[]⟩, .int .i64 0], []⟩).memory :=
  laidMet_of_run' 8 (by kernel_rfl) (by kernel_rfl)
theorem reads (os : Os) {H : Type} (enc : TypeId × Value → H) : ∃ places, DataW.whole enc Tryz.prog ((laidWorld os).forCall (fun _ _ => 0) ⟨#[], #[.string ⟨#[]⟩, .int .i64 0], []⟩).memory Tryz.f3.params.toList Rows.listKnownsSpec.vars false #[Value.string ⟨#[]⟩, .int .i64 0].toList 8 = some ([.lit (.string []), .lit (.int .i64 0)], [], places) :=
  ⟨[], by kernel_rfl⟩

set_option maxRecDepth 100000 in
theorem lifted (os : Os) (started : os.Started) (H : Type) (enc : TypeId × Value → H) (F : Stop.Interp) :
    ReturnsInHanded {} Tryz.checked os 3 .any ((OpenSpec.ofChange Rows.listKnownsSpec).preRow enc Tryz.prog Tryz.f3 Rows.listKnownsRow.domain false Rows.listKnownsRow.laid) (((OpenSpec.ofChange Rows.listKnownsSpec).at F).post enc Tryz.prog Tryz.f3 false true false false) := by
  obtain ⟨places, hx⟩ := reads os enc
  refine returnsInHanded_of_row (C := Tryz.checked) (s := OpenSpec.ofChange Rows.listKnownsSpec) own started (by kernel_rfl) Tryz.func3
    (witness_row_at (enc := enc) (C := Tryz.checked) false (laidWorld os) #[.string ⟨#[]⟩, .int .i64 0] rfl (by kernel_rfl) (by kernel_rfl) (by kernel_rfl)
      (OpenSpec.preRow_of_cond 8 hx (by kernel_rfl) (fun k hk => by cases hk) (by kernel_rfl) (laid_met os))) ?_
  intro W base args ds gs before hval hW _ _ _ hL _ _
  exact contract H enc W base args ds gs before hval hW

theorem said : Rows.ListKnownsSaid :=
  OpenClaim.holds_of_cond 3 Tryz.f3 rfl rfl rfl rfl rfl rfl rfl ⟨rfl, rfl, rfl, rfl, rfl⟩ rfl rfl rfl rfl rfl (by kernel_rfl) Tryz.func3 closed
    (of_decide_eq_true (by kernel_rfl)) (by unfold Func.isWrapper; first | (rw [if_pos (by decide +kernel)]; kernel_rfl) | (rw [if_neg (by decide +kernel)]; exact ⟨rfl, rfl⟩))
    (fun os started H enc _ F => by rw [OpenClaim.pre_eq_preRow]; exact lifted os started H enc F)

/-! ## The card -/
theorem tieP : Tryz.prog.laidByTextLater LL KK true := Program.laidByTextLater_by_run 400 8 g1 g2 g3 g4 g5 g6 g7 g8 g9
theorem row_tie : Rows.listKnownsRow.laidByTextAt .later Tryz.pinned [.data, .data, .data, .pinned, .data, .sentinel, .sentinel, .sentinel] true :=
  OpenClaim.laidByTextAt_pinned rfl rfl tieP rfl rfl rfl rfl (fun y hy _e => by
    simp only [Rows.listKnownsRow, List.zip_cons_cons, List.zip_nil_right, List.mem_cons, List.mem_nil_iff, or_false] at hy
    rcases hy with rfl | rfl | rfl | rfl | rfl | rfl | rfl | rfl
    · cases _e
    · cases _e
    · cases _e
    · exact ⟨pin_laid_unicode_utf8_first, by kernel_rfl⟩
    · cases _e
    · cases _e
    · cases _e
    · cases _e) fits1

theorem plain (f : FuncId) (fn : Func) (hf : Tryz.pinned.checked.prog.funcNamed "lorgnette/lorgnettelaw21.ListKnowns" = some f) (hfn : Tryz.pinned.checked.prog.funcs[f]? = some fn) :
    true = Tryz.pinned.checked.prog.looks [] ∧ ∀ (j : Nat) t, fn.params[j]? = some t → Tryz.pinned.checked.prog.wantsStandIn t = false := by
  obtain rfl : f = 3 := Option.some.inj ((show Tryz.prog.funcNamed "lorgnette/lorgnettelaw21.ListKnowns" = some 3 by kernel_rfl).symm.trans hf) |>.symm
  obtain rfl : fn = Tryz.f3 := (Option.some.inj (Tryz.func3.symm.trans hfn)).symm
  refine ⟨by kernel_rfl, fun j t ht => ?_⟩
  rw [Tryz.params3] at ht
  have : t = 9 ∨ t = 3 := by simpa using Array.mem_of_getElem? ht
  rcases this with rfl | rfl
  · exact (show Tryz.prog.wantsStandIn 9 = false by kernel_rfl)
  · exact (show Tryz.prog.wantsStandIn 3 = false by kernel_rfl)

theorem card : Rows.ListKnownsCardSaid :=
  Claim7.holds_tied_plain_at .later [] _ _ _ _ said (fun _ h => by cases h) (by kernel_rfl) (fun _ h => by cases h) row_tie rfl ⟨rfl, rfl⟩ (by kernel_rfl) rfl plain goes

end Go.Proofs.YtgfdikdjbnigeaaGreatDoor.listKnowns
