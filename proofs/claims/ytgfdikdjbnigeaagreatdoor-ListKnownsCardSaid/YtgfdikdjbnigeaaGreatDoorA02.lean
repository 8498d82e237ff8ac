/- Which functions there are is as the document says: the card of ListKnowns holds: for every name and number, the listed tables being as the program's text lays them. (A part of the way there: Stat, Dyn, Both and what follows.) -/
import Derived.Test.YtgfdikdjbnigeaaGreatDoorA01
set_option linter.all false
set_option linter.deprecated false
namespace Go.AM
open Go

/-! # Regions that draw, of operations that by their kind don't meet -/
inductive RO : Pg V → Prop
  | ret (v : V) : RO (.ret v)
  | fail : RO .fail
  | getR (id : Nat) (k : Row → Pg V) (h : ∀ r, RO (k r)) : RO (.getR id k)

theorem RO.run {p : Pg V} (h : RO p) : ∀ {st st' : St} {v : V}, p.run st = some (v, st') → st' = st := by
  induction h with
  | ret v => intro st st' u h; simp only [Pg.run, Option.some.injEq, Prod.mk.injEq] at h; exact h.2.symm
  | fail => intro st st' u h; simp [Pg.run] at h
  | getR id k _ ih =>
    intro st st' u h
    simp only [Pg.run] at h
    split at h
    · exact ih _ h
    · simp at h

/-- No row is looked at. -/
def QK : OpK → Prop
  | .o _ => True
  | .pcall _ _ => True
  | .bad => True
  | .val p => (∃ a, p = .ret a) ∨ p = .fail
  | _ => False

/-- Rows are read alone. -/
def RK : OpK → Prop
  | .o _ => True
  | .pcall _ _ => True
  | .bad => True
  | .val p => RO p
  | _ => False

section
variable {s : List V}

theorem k1_Q {x : CO} {f : V → OpK} (h : ∀ v, QK (f v)) : QK (k1 s x f) := by unfold k1; split; exact h _; trivial
theorem k2_Q {x y : CO} {f : V → V → OpK} (h : ∀ v u, QK (f v u)) : QK (k2 s x y f) := by unfold k2; (repeat' split) <;> first | exact h _ _ | trivial
theorem k1_R {x : CO} {f : V → OpK} (h : ∀ v, RK (f v)) : RK (k1 s x f) := by unfold k1; split; exact h _; trivial
theorem k2_R {x y : CO} {f : V → V → OpK} (h : ∀ v u, RK (f v u)) : RK (k2 s x y f) := by unfold k2; (repeat' split) <;> first | exact h _ _ | trivial

theorem quiet_spec {c : COp} (h : c.kind = .quiet) : QK (opK c s) := by
  cases c
  case conv c x =>
    cases c <;> simp [COp.kind] at h
    all_goals
      simp only [opK]
      refine k1_Q (fun v => ?_)
      simp only [QK, convP]
      split
      · exact .inl ⟨_, rfl⟩
      · exact .inr rfl
  all_goals first
    | (simp [COp.kind] at h; done)
    | trivial
    | exact k1_Q fun _ => trivial
    | exact k2_Q fun _ _ => trivial
    | (simp only [opK]; (repeat' split) <;> trivial)
    | (simp only [opK]; refine k1_Q (fun _ => ?_); (repeat' split) <;> trivial)

theorem RO.ofO {o : Option V} : RO (Pg.ofO o) := by cases o <;> first | exact .ret _ | exact .fail

theorem load_RO {n : Nat} {g : Bool} {p : V} : RO (loadP n g p) := by
  unfold loadP
  split
  · (repeat' split) <;> first | exact .ret _ | exact .fail
  · refine .getR _ _ (fun r => ?_)
    cases r with
    | cells e' t xs =>
      rename_i id e i off
      simp only
      cases Nat.beq e e' with
      | true => simp only [cond_true]; split; exact RO.ofO; exact .fail
      | false => exact .fail
    | fz e' t xs =>
      rename_i id e i off
      simp only
      cases Nat.beq e e' with
      | true => simp only [cond_true]; (repeat' split) <;> first | exact .ret _ | exact .fail
      | false => exact .fail
    | _ => exact .fail
  · exact .fail

theorem len_RO {k : LenT} {x : V} : RO (lenP k x) := by
  unfold lenP
  split <;> first
    | exact .ret _
    | exact .fail
    | (refine .getR _ _ (fun r => ?_); cases r <;> first | exact .ret _ | exact .fail)

theorem look_RO {k : KeyT} {z : D} {ok : Bool} {v w : V} : RO (lookP k z ok v w) := by
  unfold lookP
  split
  · rename_i key
    cases keyKind k key with
    | false => exact .fail
    | true =>
      simp only [cond_true]
      unfold lookupP
      simp only
      split
      · exact .ret _
      · refine .getR _ _ (fun r => ?_)
        cases r with
        | map kvs => simp only; split <;> first | exact .ret _ | exact .fail
        | _ => exact .fail
      · exact .fail
  · exact .fail

theorem bif_RO {b : Bool} {p : Pg V} (h : RO p) : RO (bif b then p else .fail) := by cases b <;> first | exact h | exact .fail

theorem iaddr_RO {e n : Nat} {v w : V} : RO (iaddrP e n v w) := by
  unfold iaddrP
  split
  · unfold indexAddrP
    split
    · split
      · split
        · exact bif_RO (.ret _)
        · exact .fail
      · exact .fail
    · split
      · refine .getR _ _ (fun r => ?_)
        cases r <;> first | exact .fail | exact bif_RO (.ret _)
      · exact .fail
    · exact .fail
  · exact .fail

theorem slice_RO {e n : Nat} {v : V} {lo hi : Option V} : RO (sliceP e n v lo hi) := by
  unfold sliceP
  split
  · (repeat' split) <;> first | exact .ret _ | exact .fail
  · split
    · split
      · split
        · exact .ret _
        · split
          · exact .fail
          · exact bif_RO (.ret _)
      · exact .fail
    · exact .fail
  · split
    · split
      · split
        · exact .ret _
        · refine .getR _ _ (fun r => ?_)
          cases r <;> first | exact .fail | exact bif_RO (.ret _)
      · exact .fail
    · exact .fail
  · exact .fail

theorem pout_RO {p : V} : RO (ptrOutP p) := by
  unfold ptrOutP
  split
  · exact .ret _
  · refine .getR _ _ (fun r => ?_)
    cases r with
    | cells e' t xs => exact bif_RO (by (repeat' split) <;> first | exact .ret _ | exact .fail)
    | _ => exact .fail
  · exact .fail

theorem pas_RO {ok : List (TypeId × Nat)} {p : V} : RO (ptrAsP ok p) := by
  unfold ptrAsP
  split
  · exact .ret _
  · refine .getR _ _ (fun r => ?_)
    cases r with
    | cells e' t xs => exact bif_RO (by split <;> first | exact .ret _ | exact .fail)
    | _ => exact .fail
  · exact .fail

theorem b2s_RO {x : V} : RO (convP .b2s x) := by
  have key : ∀ l : List V, RO (match bytesOfVs l with | some b => .ret (.d (.str b)) | none => .fail) := by
    intro l; split <;> first | exact .ret _ | exact .fail
  unfold convP
  simp only
  split
  · exact .fail
  · unfold elemsP
    split
    · exact key []
    · rename_i xs _ _
      cases lenAllD 1 xs <;> first | exact .fail | exact key _
    · exact key _
    · refine .getR _ _ (fun r => ?_)
      rename_i id e off len _
      cases r with
      | cells e' t xs =>
        simp only
        cases Nat.beq e e' with
        | false => exact .fail
        | true =>
          simp only [cond_true]
          split
          · cases lenAll 1 xs <;> first | exact .fail | exact key _
          · exact .fail
      | fz e' t xs =>
        simp only
        cases Nat.beq e e' with
        | false => exact .fail
        | true =>
          simp only [cond_true]
          split
          · cases lenAllD 1 xs <;> first | exact .fail | exact key _
          · exact .fail
      | _ => exact .fail
    · exact .fail

theorem reads_spec {c : COp} (h : c.kind = .reads) : RK (opK c s) := by
  cases c
  case conv c x =>
    cases c <;> simp [COp.kind] at h
    · exact k1_R fun v => b2s_RO
    · exact k1_R fun v => pout_RO
    · exact k1_R fun v => pas_RO
  case load => exact k1_R fun _ => load_RO
  case len => exact k1_R fun _ => len_RO
  case look => exact k2_R fun _ _ => look_RO
  case iaddr => exact k2_R fun _ _ => iaddr_RO
  case slice =>
    simp only [opK]
    refine k1_R (fun _ => ?_)
    (repeat' split) <;> first | exact slice_RO | trivial
  all_goals simp [COp.kind] at h

variable {C : Cfg} {E : Env} {c : COp} {st st' : St} {v : V}

theorem pcallF_st {f : FuncId} {args : List V} {r : Res} (h : pcallF E f args st = some (r, st')) : st' = st ∧ ∀ st2, pcallF E f args st2 = some (r, st2) := by
  unfold pcallF at h ⊢
  cases hp : pureCall E f args with
  | none => rw [hp] at h; simp at h
  | some q => rw [hp] at h; simp at h; obtain ⟨rfl, rfl⟩ := h; exact ⟨rfl, fun _ => rfl⟩

theorem quiet_op (h : c.kind = .quiet) (ho : opC C E c s st (fun v st => some (v, st)) (fun _ _ => none) = some (v, st')) : st' = st ∧ ∀ st2, opC C E c s st2 (fun v st => some (v, st)) (fun _ _ => none) = some (v, st2) := by
  have hq := quiet_spec (s := s) h
  unfold opC at ho ⊢
  cases hk : opK c s with
  | o x =>
    rw [hk] at ho
    cases x with
    | none => simp [o1] at ho
    | some y => simp [o1] at ho ⊢; obtain ⟨rfl, rfl⟩ := ho; simp
  | val p =>
    rw [hk] at hq ho
    rcases hq with ⟨y, rfl⟩ | rfl
    · simp [p1, Pg.run] at ho ⊢; obtain ⟨rfl, rfl⟩ := ho; simp
    · simp [p1, Pg.run] at ho
  | pcall f args =>
    rw [hk] at ho
    simp only at ho ⊢
    cases hp : pcallF E f args st with
    | none => rw [hp] at ho; simp [c1] at ho
    | some q =>
      obtain ⟨r, st1⟩ := q
      obtain ⟨rfl, h2⟩ := pcallF_st hp
      rw [hp] at ho
      cases r with
      | ret y => simp [c1] at ho; obtain ⟨rfl, rfl⟩ := ho; exact ⟨rfl, fun st2 => by rw [h2]; simp [c1]⟩
      | pan y => simp [c1] at ho
  | bad => rw [hk] at ho; simp at ho
  | call => rw [hk] at hq; exact hq.elim
  | panv => rw [hk] at hq; exact hq.elim
  | dfr => rw [hk] at hq; exact hq.elim
  | rcv => rw [hk] at hq; exact hq.elim

theorem reads_op (h : c.kind = .reads) (ho : opC C E c s st (fun v st => some (v, st)) (fun _ _ => none) = some (v, st')) : st' = st := by
  have hq := reads_spec (s := s) h
  unfold opC at ho
  cases hk : opK c s with
  | o x =>
    rw [hk] at ho
    cases x with
    | none => simp [o1] at ho
    | some y => simp [o1] at ho; exact ho.2.symm
  | val p =>
    rw [hk] at hq ho
    simp only [p1] at ho
    cases hr : p.run st with
    | none => rw [hr] at ho; simp at ho
    | some q =>
      obtain ⟨y, st1⟩ := q
      rw [hr] at ho
      simp at ho
      obtain ⟨rfl, rfl⟩ := ho
      exact RO.run hq hr
  | pcall f args =>
    rw [hk] at ho
    simp only at ho
    cases hp : pcallF E f args st with
    | none => rw [hp] at ho; simp [c1] at ho
    | some q =>
      obtain ⟨r, st1⟩ := q
      obtain ⟨rfl, h2⟩ := pcallF_st hp
      rw [hp] at ho
      cases r with
      | ret y => simp [c1] at ho; exact ho.2.symm
      | pan y => simp [c1] at ho
  | bad => rw [hk] at ho; simp at ho
  | call => rw [hk] at hq; exact hq.elim
  | panv => rw [hk] at hq; exact hq.elim
  | dfr => rw [hk] at hq; exact hq.elim
  | rcv => rw [hk] at hq; exact hq.elim

/-- Operations that by kind don't meet. -/
theorem stat_swap {x y : FOp} (ha : apartF x y = true) (hk : meet3 x.2.op.kind y.2.op.kind = false) {a b c : Sg} (h1 : FS C E x a b) (h2 : FS C E y b c) : ∃ b', FS C E y a b' ∧ FS C E x b' c := by
  refine fs_swap (fun s s' hf st v st' h => by rw [← opC_frame hf]; exact h) (fun s s' hf st v st' h => by rw [← opC_frame hf]; exact h) ha ?_ h1 h2
  intro s s' st st1 st2 u v o1 o2
  cases hx : x.2.op.kind with
  | quiet =>
    obtain ⟨rfl, q⟩ := quiet_op hx o1
    exact ⟨st2, o2, q st2⟩
  | reads =>
    cases hy : y.2.op.kind with
    | quiet =>
      obtain ⟨rfl, q⟩ := quiet_op hy o2
      exact ⟨st, q st, o1⟩
    | reads =>
      have e1 := reads_op hx o1
      subst e1
      have e2 := reads_op hy o2
      subst e2
      exact ⟨_, o2, o1⟩
    | loud => rw [hx, hy] at hk; simp [meet3] at hk
  | loud =>
    cases hy : y.2.op.kind with
    | quiet =>
      obtain ⟨rfl, q⟩ := quiet_op hy o2
      exact ⟨st, q st, o1⟩
    | reads => rw [hx, hy] at hk; simp [meet3] at hk
    | loud => rw [hx, hy] at hk; simp [meet3] at hk

end
end Go.AM
namespace Go.AM
open Go

/-! # Regions that draw, looked at as they run -/
def flatL {α : Type} (C : Cfg) (E : Env) (pr : List (List Nat)) (k : List V → St → Option α) : Nat → List FOp → List (Nat × Log) → List V → St → Option α
  | _, [], logs, s, st => bif okLogs pr logs then k s st else none
  | i, (g, o) :: l, logs, s, st => match wantedV s g with
    | some true => opCL C E o.op s st fun v st' lg => flatL C E pr k (i + 1) l ((i, lg) :: logs) (putS s o.dst v) st'
    | some false => flatL C E pr k (i + 1) l logs (putS s o.dst (.tup [])) st
    | none => none

section
variable {α : Type} {C : Cfg} {E : Env}

theorem opCL_cases {op : COp} {s : List V} {st : St} {k : V → St → Log → Option α} {out : α} (h : opCL C E op s st k = some out) :
    ∃ v st' lg, k v st' lg = some out ∧ (∀ (β : Type) (k' : V → St → Log → Option β), opCL C E op s st k' = k' v st' lg) := by
  unfold opCL at h
  cases ho : opK op s with
  | o x =>
    rw [ho] at h
    cases x with
    | none => simp [o1] at h
    | some v => exact ⟨v, st, lg0, h, fun β k' => by simp [opCL, ho, o1]⟩
  | val p =>
    rw [ho] at h
    simp only [pl1] at h
    cases hr : p.runL st ⟨[], [], false⟩ with
    | none => simp [hr] at h
    | some q =>
      obtain ⟨v, st', fp⟩ := q
      rw [hr] at h
      exact ⟨v, st', ⟨fp, false⟩, h, fun β k' => by simp [opCL, ho, pl1, hr]⟩
  | call fv args =>
    rw [ho] at h
    simp only [cl2] at h
    cases hs : spOf C fv args with
    | some p =>
      simp only [hs, pl1] at h
      cases hr : p.runL st ⟨[], [], false⟩ with
      | none => simp [hr] at h
      | some q =>
        obtain ⟨v, st', fp⟩ := q
        rw [hr] at h
        exact ⟨v, st', ⟨fp, false⟩, h, fun β k' => by simp [opCL, ho, cl2, hs, pl1, hr]⟩
    | none =>
      simp only [hs] at h
      cases hc : callF0 C E fv args st with
      | none => simp [hc, cl1] at h
      | some q =>
        obtain ⟨r, st'⟩ := q
        simp only [hc] at h
        cases r with
        | ret v => exact ⟨v, st', _, h, fun β k' => by simp [opCL, ho, cl2, hs, cl1, hc]⟩
        | pan v => simp [cl1] at h
  | pcall f args =>
    rw [ho] at h
    cases hc : pcallF E f args st with
    | none => simp [hc, c1] at h
    | some q =>
      obtain ⟨r, st'⟩ := q
      simp only [hc] at h
      cases r with
      | ret v => exact ⟨v, st', lg0, h, fun β k' => by simp [opCL, ho, c1, hc]⟩
      | pan v => simp [c1] at h
  | _ => rw [ho] at h; simp at h

/-- With its log or without. -/
theorem opCL_opC {op : COp} {s : List V} {st st' : St} {v : V} {lg : Log} (h : opCL C E op s st (fun v st lg => some (v, st, lg)) = some (v, st', lg)) :
    opC C E op s st (fun v st => some (v, st)) (fun _ _ => none) = some (v, st') := by
  unfold opCL at h
  unfold opC
  cases ho : opK op s with
  | o x =>
    rw [ho] at h
    cases x with
    | none => simp [o1] at h
    | some y => simp [o1] at h ⊢; exact ⟨h.1, h.2.1⟩
  | val p =>
    rw [ho] at h
    simp only [pl1] at h
    cases hr : p.runL st ⟨[], [], false⟩ with
    | none => simp [hr] at h
    | some q =>
      obtain ⟨y, st1, fp⟩ := q
      simp [hr] at h
      simp [p1, runL_run hr, h.1, h.2.1]
  | call fv args =>
    rw [ho] at h
    simp only [cl2] at h
    simp only [callF]
    cases hs : spOf C fv args with
    | some p =>
      simp only [hs, pl1] at h
      cases hr : p.runL st ⟨[], [], false⟩ with
      | none => simp [hr] at h
      | some q =>
        obtain ⟨y, st1, fp⟩ := q
        simp [hr] at h
        simp [c1, spRun, runL_run hr, h.1, h.2.1]
    | none =>
      simp only [hs] at h
      cases hc : callF0 C E fv args st with
      | none => simp [hc, cl1] at h
      | some q =>
        obtain ⟨r, st1⟩ := q
        simp only [hc] at h
        cases r with
        | ret y => simp [cl1] at h; simp [c1, h.1, h.2.1]
        | pan y => simp [cl1] at h
  | pcall f args =>
    rw [ho] at h
    simp only at h ⊢
    cases hc : pcallF E f args st with
    | none => simp [hc, c1] at h
    | some q =>
      obtain ⟨r, st1⟩ := q
      simp only [hc] at h
      cases r with
      | ret y => simp [c1] at h; simp [c1, h.1, h.2.1]
      | pan y => simp [c1] at h
  | _ => rw [ho] at h; simp at h

theorem opsCL_flat {pr : List (List Nat)} {k : List V → St → Option α} {out : α} {g : Option (Nat × Bool)} : ∀ (l : List COper) (i : Nat) (rest : List FOp) (logs : List (Nat × Log)) (s : List V) (st : St)
    (k0 : Nat → List (Nat × Log) → List V → St → Option α),
    (∀ j w, g = some (j, w) → ∀ o ∈ l, o.dst ≠ some j) → wantedV s g = some true → (∀ i logs s st, k0 i logs s st = some out → flatL C E pr k i rest logs s st = some out) → opsCL C E k0 i l logs s st = some out →
    flatL C E pr k i (l.map (fun o => (g, o)) ++ rest) logs s st = some out
  | [], i, rest, logs, s, st, k0, _, _, hk, h => hk i logs s st h
  | o :: l, i, rest, logs, s, st, k0, hd, hw, hk, h => by
    simp only [opsCL] at h
    simp only [List.map_cons, List.cons_append, flatL, hw]
    obtain ⟨v, st', lg, h1, h2⟩ := opCL_cases h
    rw [h2]
    refine opsCL_flat l (i + 1) rest _ _ _ k0 (fun j w hg o ho => hd j w hg o (by simp [ho])) ?_ hk h1
    cases g with
    | none => rfl
    | some p => obtain ⟨j, w⟩ := p; rw [wanted_putS (hd j w rfl o (by simp))]; exact hw

theorem skipL_flat {pr : List (List Nat)} {j : Nat} {w : Bool} {k : List V → St → Option α} {out : α} {rest : List FOp} {logs : List (Nat × Log)} {vs : List V} (hvs : ∀ i, nthV vs i = .tup []) :
    ∀ (l : List COper) (i n : Nat) (s : List V) (st : St), (∀ o ∈ l, o.dst ≠ some j) → wantedV s (some (j, w)) = some false →
      flatL C E pr k (i + l.length) rest logs (putAll vs n (dsts l) s) st = some out → flatL C E pr k i (l.map (fun o => (some (j, w), o)) ++ rest) logs s st = some out
  | [], i, n, s, st, _, _, h => h
  | o :: l, i, n, s, st, hd, hw, h => by
    simp only [List.map_cons, List.cons_append, flatL, hw]
    have hw' := (wanted_putS (s := s) (v := .tup []) (w := w) (hd o (by simp))).trans hw
    have hi : i + (o :: l).length = i + 1 + l.length := by simp; omega
    rw [hi] at h
    cases ho : o.dst with
    | none =>
      rw [ho] at hw'
      refine skipL_flat hvs l (i + 1) n _ st (fun o ho => hd o (by simp [ho])) hw' ?_
      simp only [dsts, ho] at h
      exact h
    | some d =>
      rw [ho] at hw'
      refine skipL_flat hvs l (i + 1) (n + 1) _ st (fun o ho => hd o (by simp [ho])) hw' ?_
      simp only [dsts, ho, putAll, hvs] at h
      exact h

theorem evGsL_flat {pr : List (List Nat)} {k : List V → St → Option α} {out : α} : ∀ (gs : List Grp) (i : Nat) (logs : List (Nat × Log)) (s : List V) (st : St),
    (∀ g ∈ gs, ∀ j w, g.guard = some (j, w) → ∀ o ∈ g.ops, o.dst ≠ some j) → evGsL C E pr k i gs logs s st = some out → flatL C E pr k i (flatten gs) logs s st = some out
  | [], i, logs, s, st, _, h => h
  | ⟨g, ops⟩ :: gs, i, logs, s, st, hok, h => by
    simp only [evGsL] at h
    have hd := hok ⟨g, ops⟩ (by simp)
    have ih := fun i logs s st => evGsL_flat (pr := pr) (k := k) (out := out) gs i logs s st (fun g hg => hok g (by simp [hg]))
    split at h
    · rename_i hw
      exact opsCL_flat ops i (flatten gs) logs s st _ hd hw (fun i logs s st h => ih i logs s st h) h
    · rename_i hw
      cases g with
      | none => simp [wantedV] at hw
      | some p =>
        obtain ⟨j, w⟩ := p
        refine skipL_flat (vs := []) (fun i => by simp [nthV, nth]) ops i 0 s st (hd j w rfl) hw (ih _ _ _ _ h)
    · simp at h

/-- One operation that leaves its log. -/
def FSL (C : Cfg) (E : Env) (lg : Log) (x : FOp) (a b : Sg) : Prop :=
  FSg (fun s st v st' => opCL C E x.2.op s st (fun v st lg => some (v, st, lg)) = some (v, st', lg)) x a b

theorem FSL.fs {lg : Log} {x : FOp} {a b : Sg} (h : FSL C E lg x a b) : FS C E x a b := by
  rcases h with ⟨w, v, o, e⟩ | h
  · exact .inl ⟨w, v, opCL_opC o, e⟩
  · exact .inr h

def RL (C : Cfg) (E : Env) (fl : List FOp) (lam : Nat → Log) (i : Nat) (a b : Sg) : Prop := ∃ x, fl[i]? = some x ∧ FSL C E (lam i) x a b

theorem RunO.congr {R R' : Nat → Sg → Sg → Prop} {l : List Nat} {a b : Sg} (h : RunO R l a b) (hr : ∀ i ∈ l, ∀ a b, R i a b → R' i a b) : RunO R' l a b := by
  induction h with
  | nil a => exact .nil a
  | cons i l a b c h _ ih => exact .cons i l a b c (hr i (by simp) _ _ h) (ih (fun j hj => hr j (by simp [hj])))

theorem lg0_meets (b : Log) : lg0.meets b = false := by
  have h : ∀ l : List Nat, meetsN [] l = false := by intro l; induction l with | nil => rfl | cons a l ih => simp [meetsN, memN, ih]
  have h2 : meetsN b.fp.rd [] = false := rfl
  simp [Log.meets, lg0, h, meetsN]

theorem meets_lg0 (a : Log) : a.meets lg0 = false := by
  have h : ∀ l : List Nat, meetsN [] l = false := by intro l; induction l with | nil => rfl | cons a l ih => simp [meetsN, memN, ih]
  simp [Log.meets, lg0, h, meetsN]

theorem allSeen_spec {p : List Nat} {b : Log} : ∀ {l : List (Nat × Log)}, allSeen p b l = true → ∀ q ∈ l, q.1 ∉ p → q.2.meets b = false
  | [], _, q, hq, _ => by simp at hq
  | (i, a) :: l, h, q, hq, hn => by
    simp only [allSeen, Bool.and_eq_true, Bool.or_eq_true, Bool.not_eq_true'] at h
    rcases List.mem_cons.1 hq with rfl | hq
    · rcases h.1 with h1 | h1
      · exact absurd (memN_iff.1 h1) hn
      · exact h1
    · exact allSeen_spec h.2 q hq hn

theorem flatL_run {fl : List FOp} {pr : List (List Nat)} {k : List V → St → Option α} {out : α} : ∀ (l : List FOp) (i : Nat) (logs : List (Nat × Log)) (s : List V) (st : St), fl.drop i = l → flatL C E pr k i l logs s st = some out →
    ∃ lam s' st', RunO (RL C E fl lam) (List.range' i l.length) (s, st) (s', st') ∧ k s' st' = some out ∧ okLogs pr logs = true ∧
      (∀ j, i ≤ j → j < i + l.length → ∀ q ∈ logs, q.1 ∉ precOf pr j → q.2.meets (lam j) = false) ∧
      (∀ t j, i ≤ t → t < j → j < i + l.length → t ∉ precOf pr j → (lam t).meets (lam j) = false)
  | [], i, logs, s, st, _, h => by
    simp only [flatL] at h
    cases hok : okLogs pr logs with
    | false => rw [hok] at h; simp at h
    | true =>
      rw [hok] at h
      exact ⟨fun _ => lg0, s, st, .nil _, h, rfl, fun j h1 h2 => by simp at h2; omega, fun t j h1 h2 h3 => by simp at h3; omega⟩
  | (g, o) :: l, i, logs, s, st, hl, h => by
    have hx : fl[i]? = some (g, o) := by
      have : (fl.drop i)[0]? = some (g, o) := by rw [hl]; rfl
      rw [List.getElem?_drop] at this
      simpa using this
    have hl' : fl.drop (i + 1) = l := by rw [← List.drop_drop, hl]; rfl
    -- one more
    have step : ∀ (lg : Log) (s1 : List V) (st1 : St) (lam : Nat → Log) (s' : List V) (st' : St), FSL C E lg (g, o) (s, st) (s1, st1) → RunO (RL C E fl lam) (List.range' (i + 1) l.length) (s1, st1) (s', st') →
        RunO (RL C E fl (fun j => if j = i then lg else lam j)) (List.range' i (l.length + 1)) (s, st) (s', st') := by
      intro lg s1 st1 lam s' st' h1 h2
      rw [List.range'_succ]
      refine .cons i _ _ (s1, st1) _ ⟨(g, o), hx, by simp only [if_true]; exact h1⟩ (h2.congr ?_)
      intro j hj a b hr
      have : j ≠ i := by have := (List.mem_range'_1.1 hj).1; omega
      obtain ⟨x, q1, q2⟩ := hr
      exact ⟨x, q1, by simp only [if_neg this]; exact q2⟩
    simp only [flatL] at h
    cases hw : wantedV s g with
    | none => rw [hw] at h; simp at h
    | some b =>
      rw [hw] at h
      cases b with
      | true =>
        simp only at h
        obtain ⟨v, st1, lg, h1, h2⟩ := opCL_cases h
        obtain ⟨lam, s', st', r1, r2, r3, r4, r5⟩ := flatL_run l (i + 1) _ _ _ hl' h1
        simp only [okLogs, Bool.and_eq_true] at r3
        refine ⟨fun j => if j = i then lg else lam j, s', st', step lg _ _ lam s' st' (.inl ⟨hw, v, h2 _ _, rfl⟩) r1, r2, r3.2, ?_, ?_⟩
        · intro j q1 q2 q hq hn
          by_cases hj : j = i
          · subst hj; simp only [if_true]; exact allSeen_spec r3.1 q hq hn
          · simp only [if_neg hj]; exact r4 j (by omega) (by simp at q2; omega) q (by simp [hq]) hn
        · intro t j q1 q2 q3 hn
          have hj : j ≠ i := by omega
          simp only [if_neg hj]
          by_cases ht : t = i
          · subst ht; simp only [if_true]; exact r4 j (by omega) (by simp at q3; omega) (t, lg) (by simp) hn
          · simp only [if_neg ht]; exact r5 t j (by omega) q2 (by simp at q3; omega) hn
      | false =>
        simp only at h
        obtain ⟨lam, s', st', r1, r2, r3, r4, r5⟩ := flatL_run l (i + 1) _ _ _ hl' h
        refine ⟨fun j => if j = i then lg0 else lam j, s', st', step lg0 _ _ lam s' st' (.inr ⟨hw, rfl, rfl⟩) r1, r2, r3, ?_, ?_⟩
        · intro j q1 q2 q hq hn
          by_cases hj : j = i
          · subst hj; simp only [if_true]; exact meets_lg0 _
          · simp only [if_neg hj]; exact r4 j (by omega) (by simp at q2; omega) q hq hn
        · intro t j q1 q2 q3 hn
          have hj : j ≠ i := by omega
          simp only [if_neg hj]
          by_cases ht : t = i
          · subst ht; simp only [if_true]; exact lg0_meets _
          · simp only [if_neg ht]; exact r5 t j (by omega) q2 (by simp at q3; omega) hn

theorem meetsN_false {a : List Nat} : ∀ {l : List Nat}, meetsN a l = false → ∀ i ∈ a, i ∉ l
  | [], _, i, _ => by simp
  | b :: l, h, i, hi => by
    simp only [meetsN, Bool.or_eq_false_iff] at h
    simp only [List.mem_cons, not_or]
    refine ⟨?_, meetsN_false h.2 i hi⟩
    rintro rfl
    rw [memN_iff.2 hi] at h
    simp at h

/-- Operations that by their logs don't meet. -/
theorem dyn_swap {x y : FOp} {lx ly : Log} (ha : apartF x y = true) (hm : lx.meets ly = false) {a b c : Sg} (h1 : FSL C E lx x a b) (h2 : FSL C E ly y b c) : ∃ b', FSL C E ly y a b' ∧ FSL C E lx x b' c := by
  refine fs_swap (fun s s' hf st v st' h => by rw [← opCL_frame hf]; exact h) (fun s s' hf st v st' h => by rw [← opCL_frame hf]; exact h) ha ?_ h1 h2
  intro s s' st st1 st2 u v hx hy
  -- what one may be
  have shape : ∀ {c : COp} {s : List V} {st st' : St} {v : V} {lg : Log}, opCL C E c s st (fun v st lg => some (v, st, lg)) = some (v, st', lg) →
      (lg.all = false ∧ st' = st ∧ ∀ st2, opCL C E c s st2 (fun v st lg => some (v, st, lg)) = some (v, st2, lg)) ∨
      (∃ p, (∀ st2, opCL C E c s st2 (fun v st lg => some (v, st, lg)) = pl1 p st2 (fun v st lg => some (v, st, lg))) ∧ p.runL st ⟨[], [], false⟩ = some (v, st', lg.fp) ∧ lg.all = false) ∨ lg.all = true := by
    intro c s st st' v lg h
    unfold opCL at h
    simp only [opCL]
    cases ho : opK c s with
    | o z =>
      rw [ho] at h
      cases z with
      | none => simp [o1] at h
      | some z => simp [o1] at h ⊢; obtain ⟨rfl, rfl, rfl⟩ := h; exact .inl ⟨rfl, rfl, fun _ => ⟨rfl, rfl⟩⟩
    | val p =>
      rw [ho] at h
      simp only [pl1] at h
      cases hr : p.runL st ⟨[], [], false⟩ with
      | none => simp [hr] at h
      | some q =>
        obtain ⟨y, st1, fp⟩ := q
        simp [hr] at h
        obtain ⟨rfl, rfl, rfl⟩ := h
        exact .inr (.inl ⟨p, fun st2 => by simp only [], hr, rfl⟩)
    | call fv args =>
      rw [ho] at h
      simp only [cl2] at h
      cases hs : spOf C fv args with
      | some p =>
        simp only [hs, pl1] at h
        cases hr : p.runL st ⟨[], [], false⟩ with
        | none => simp [hr] at h
        | some q =>
          obtain ⟨y, st1, fp⟩ := q
          simp [hr] at h
          obtain ⟨rfl, rfl, rfl⟩ := h
          exact .inr (.inl ⟨p, fun st2 => by simp only [cl2, hs], hr, rfl⟩)
      | none =>
        simp only [hs] at h
        cases hc : callF0 C E fv args st with
        | none => simp [hc, cl1] at h
        | some q =>
          obtain ⟨r, st1⟩ := q
          simp only [hc] at h
          cases r with
          | ret y => simp [cl1] at h; obtain ⟨_, _, rfl⟩ := h; exact .inr (.inr rfl)
          | pan y => simp [cl1] at h
    | pcall f args =>
      rw [ho] at h
      simp only at h ⊢
      cases hc : pcallF E f args st with
      | none => simp [hc, c1] at h
      | some q =>
        obtain ⟨r, st1⟩ := q
        obtain ⟨rfl, h2⟩ := pcallF_st hc
        simp only [hc] at h
        cases r with
        | ret y => simp [c1] at h; obtain ⟨rfl, rfl, rfl⟩ := h; exact .inl ⟨rfl, rfl, fun st2 => by simp [h2, c1]⟩
        | pan y => simp [c1] at h
    | _ => rw [ho] at h; simp at h
  -- a program on rows that meets no call looks at nothing
  have still : ∀ {c : COp} {s : List V} {st st' : St} {v : V} {lg : Log} {p : Pg V}, (∀ st2, opCL C E c s st2 (fun v st lg => some (v, st, lg)) = pl1 p st2 (fun v st lg => some (v, st, lg))) → p.runL st ⟨[], [], false⟩ = some (v, st', lg.fp) → lg.all = false → (lg.fp.nw || !lg.fp.rd.isEmpty || !lg.fp.wr.isEmpty) = false →
      st' = st ∧ ∀ st2, opCL C E c s st2 (fun v st lg => some (v, st, lg)) = some (v, st2, lg) := by
    intro c s st st' v lg p hp hr hall he
    simp only [Bool.or_eq_false_iff, Bool.not_eq_false', List.isEmpty_iff] at he
    obtain ⟨q1, q2, rfl⟩ := runL_quiet hr he.1.2 he.2
    refine ⟨q1, fun st2 => ?_⟩
    rw [hp]
    have : lg = ⟨⟨[], [], false⟩, false⟩ := by cases lg; simp at q2 hall; simp [q2, hall]
    simp [pl1, Pg.runL, this]
  unfold Log.meets at hm
  simp only [Bool.or_eq_false_iff] at hm
  obtain ⟨⟨⟨⟨⟨m1, m2⟩, m3⟩, m4⟩, m5⟩, m6⟩ := hm
  rcases shape hx with ⟨a1, rfl, a3⟩ | ⟨p, p1', p2, p3⟩ | a1
  · exact ⟨st2, hy, a3 st2⟩
  · rcases shape hy with ⟨b1, rfl, b3⟩ | ⟨q, q1', q2, q3⟩ | b1
    · exact ⟨st, b3 st, hx⟩
    · obtain ⟨st', r1, r2⟩ := runL_swap p2 q2 (fun i hi => ⟨fun h => meetsN_false m5 i h hi, fun h => meetsN_false m6 i hi h⟩) (fun i hi => meetsN_false m4 i hi) (by simpa using m3)
      refine ⟨st', ?_, ?_⟩
      · rw [q1']; cases ly; simp at q3; simp [pl1, r1, q3]
      · rw [p1']; cases lx; simp at p3; simp [pl1, r2, p3]
    · rw [b1, Bool.true_and] at m2
      obtain ⟨rfl, e⟩ := still p1' p2 p3 m2
      exact ⟨st2, hy, e st2⟩
  · rcases shape hy with ⟨b1, rfl, b3⟩ | ⟨q, q1', q2, q3⟩ | b1
    · exact ⟨st, b3 st, hx⟩
    · rw [a1, Bool.true_and] at m1
      simp only [Bool.or_assoc, Bool.or_eq_false_iff] at m1
      obtain ⟨rfl, e⟩ := still q1' q2 q3 (by simp only [Bool.or_eq_false_iff]; exact ⟨⟨m1.2.1, m1.2.2.1⟩, m1.2.2.2⟩)
      exact ⟨st, e st, hx⟩
    · rw [a1, b1] at m1; simp at m1

end
end Go.AM
namespace Go.AM
open Go

theorem eqL_spec {α : Type} {f : α → α → Bool} (hf : ∀ x y, f x y = true → x = y) : ∀ {a b : List α}, eqL f a b = true → a = b
  | [], [], _ => rfl
  | x :: l, y :: r, h => by
    simp only [eqL, Bool.and_eq_true] at h
    rw [hf x y h.1, eqL_spec hf h.2]
  | [], _ :: _, h => by simp [eqL] at h
  | _ :: _, [], h => by simp [eqL] at h

theorem eqF_spec {a b : Fn} (h : eqF a b = true) : a = b := by
  cases a <;> cases b <;> simp [eqF] at h
  subst h; rfl

theorem eqD_spec : ∀ (n : Nat) (x y : D), eqD n x y = true → x = y
  | 0, _, _, h => by simp [eqD] at h
  | n + 1, x, y, h => by
    have ih : ∀ a b, eqD n a b = true → a = b := eqD_spec n
    cases x <;> cases y <;> simp only [eqD, Bool.and_eq_true, reduceCtorEq, Bool.false_eq_true, beq_iff_eq] at h <;> first
      | rfl
      | exact h.elim
      | (subst h; rfl)
      | (split at h
         · rename_i e; subst e; simp only [beq_iff_eq] at h; subst h; rfl
         · simp at h)
      | (obtain ⟨h1, h2, h3⟩ := h; rw [Nat.eq_of_beq_eq_true h1, Nat.eq_of_beq_eq_true h2, eqL_spec ih h3])
      | (obtain ⟨h1, h2⟩ := h; subst h1; rw [eqL_spec ih h2])
      | (obtain ⟨h1, h2, h3⟩ := h; rw [eqF_spec h1, eqL_spec ih h2, eqL_spec ih h3])
      | (obtain ⟨h1, h2⟩ := h; rw [Nat.eq_of_beq_eq_true h1, ih _ _ h2])
      | (rw [eqL_spec ih h])

theorem eqV_spec : ∀ (n : Nat) (x y : V), eqV n x y = true → x = y
  | 0, _, _, h => by simp [eqV] at h
  | n + 1, x, y, h => by
    have ih : ∀ a b, eqV n a b = true → a = b := eqV_spec n
    cases x <;> cases y <;> simp only [eqV, Bool.and_eq_true, reduceCtorEq, Bool.false_eq_true] at h <;> first
      | exact h.elim
      | (rw [eqD_spec 24 _ _ h])
      | (obtain ⟨h1, h2, h3, h4⟩ := h; rw [Nat.eq_of_beq_eq_true h1, Nat.eq_of_beq_eq_true h2, Nat.eq_of_beq_eq_true h3, Nat.eq_of_beq_eq_true h4])
      | (obtain ⟨h1, h2, h3⟩ := h; rw [eqF_spec h1, eqL_spec ih h2, eqL_spec ih h3])
      | (obtain ⟨h1, h2⟩ := h; rw [Nat.eq_of_beq_eq_true h1, ih _ _ h2])
      | (rw [eqL_spec ih h])
      | (rw [Nat.eq_of_beq_eq_true h])

theorem eqRow_spec {a b : Row} (h : eqRow a b = true) : a = b := by
  cases a <;> cases b <;> simp only [eqRow, Bool.and_eq_true, reduceCtorEq, Bool.false_eq_true] at h
  · obtain ⟨h1, h2, h3⟩ := h; rw [Nat.eq_of_beq_eq_true h1, Nat.eq_of_beq_eq_true h2, eqL_spec (eqV_spec 24) h3]
  · obtain ⟨h1, h2, h3⟩ := h; rw [Nat.eq_of_beq_eq_true h1, Nat.eq_of_beq_eq_true h2, eqL_spec (eqD_spec 24) h3]
  · obtain ⟨h1, h2, h3, h4⟩ := h; rw [Nat.eq_of_beq_eq_true h1, Nat.eq_of_beq_eq_true h2, Nat.eq_of_beq_eq_true h3, eqL_spec (eqV_spec 24) h4]

theorem eqRows_spec : ∀ {a b : List (Nat × Row)}, eqRows a b = true → a = b
  | [], [], _ => rfl
  | (i, r) :: l, (j, q) :: m, h => by
    simp only [eqRows, Bool.and_eq_true] at h
    rw [Nat.eq_of_beq_eq_true h.1, eqRow_spec h.2.1, eqRows_spec h.2.2]
  | [], _ :: _, h => by simp [eqRows] at h
  | _ :: _, [], h => by simp [eqRows] at h

theorem eqSt_spec {a b : St} (h : eqSt a b = true) : a = b := by
  obtain ⟨n, r, d, c⟩ := a
  obtain ⟨n', r', d', c'⟩ := b
  simp only [eqSt, Bool.and_eq_true] at h
  obtain ⟨h1, h2, h3⟩ := h
  split at h3
  · rw [Nat.eq_of_beq_eq_true h1, eqRows_spec h2]
  · simp at h3

theorem eqOut_spec {a b : Out} (h : eqOut a b = true) : a = b := by
  obtain ⟨x, s⟩ := a
  obtain ⟨y, t⟩ := b
  cases x <;> cases y <;> simp only [eqOut, Bool.and_eq_true, reduceCtorEq, Bool.false_eq_true] at h
  · rw [eqV_spec 24 _ _ h.1, eqSt_spec h.2]
  · rw [eqV_spec 24 _ _ h.1, eqSt_spec h.2]

theorem both_some {a b : Option Out} {o : Out} (h : both a b = some o) : a = some o ∧ b = some o := by
  unfold both at h
  cases a with
  | none => simp at h
  | some x =>
    cases b with
    | none => simp at h
    | some y =>
      simp only at h
      cases he : eqOut x y with
      | false => rw [he] at h; simp at h
      | true =>
        rw [he] at h
        simp only [cond_true, Option.some.injEq] at h
        subst h
        exact ⟨rfl, by rw [eqOut_spec he]⟩

theorem both_le {a b a' b' : Option Out} (ha : ∀ o, a = some o → a' = some o) (hb : ∀ o, b = some o → b' = some o) {o : Out} (h : both a b = some o) : both a' b' = some o := by
  obtain ⟨h1, h2⟩ := both_some h
  rw [h1, h2] at h
  rw [ha o h1, hb o h2]
  exact h
end Go.AM
namespace Go.AM
open Go

theorem all_after (o : Oper) (p : Nat → Bool) : (o.after.all fun e => !Region.binds .any e || p e.on) = (bindsOf o).all p := by
  rw [← Array.all_toList]
  unfold bindsOf
  induction o.after.toList with
  | nil => rfl
  | cons e l ih =>
    simp only [List.all_cons, List.filter_cons, ih]
    cases Region.binds .any e <;> simp

theorem idx_or {α : Type} [Inhabited α] {a b : α} (t : Nat) : [a, b][t % [a, b].length]? = some a ∨ [a, b][t % [a, b].length]? = some b := by
  have h : t % 2 < 2 := Nat.mod_lt _ (by omega)
  have : t % 2 = 0 ∨ t % 2 = 1 := by omega
  rcases this with h | h
  · left; simp [h]
  · right; simp [h]

/-- Four operations of which the second and the third stand in either order. -/
theorem lin_flip {a b c d : Oper} (ha : bindsOf a = []) (hb : bindsOf b = [0]) (hc : bindsOf c = [0]) (hd : bindsOf d = [0, 0, 1, 2]) (t : Nat) :
    Region.linearise .any #[a, b, c, d] t = [0, 1, 2, 3] ∨ Region.linearise .any #[a, b, c, d] t = [0, 2, 1, 3] := by
  have r4 : List.range 4 = [0, 1, 2, 3] := rfl
  have rdy : ∀ p q r s : Bool, ((List.range (#[a, b, c, d] : Array Oper).size).filter fun i =>
        !(#[p, q, r, s] : Array Bool).getD i true && (((#[a, b, c, d] : Array Oper)[i]?).map (·.after.all fun e => !Region.binds .any e || (#[p, q, r, s] : Array Bool).getD e.on false)).getD false) =
      [0, 1, 2, 3].filter fun i => match i with
        | 0 => !p
        | 1 => !q && p
        | 2 => !r && p
        | 3 => !s && (p && (p && (q && r)))
        | _ => false := by
    intro p q r s
    rw [show (#[a, b, c, d] : Array Oper).size = 4 from rfl, r4]
    apply List.filter_congr
    intro i hi
    have key : ∀ o : Oper, (o.after.all fun e => !Region.binds .any e || (#[p, q, r, s] : Array Bool).getD e.on false) = (bindsOf o).all fun j => (#[p, q, r, s] : Array Bool).getD j false := fun o => all_after o (fun j => (#[p, q, r, s] : Array Bool).getD j false)
    simp only [key]
    simp only [List.mem_cons, List.not_mem_nil, or_false] at hi
    rcases hi with rfl | rfl | rfl | rfl
    · simp [ha]
    · simp [hb]
    · simp [hc]
    · simp [hd]
  unfold Region.linearise
  rw [show (#[a, b, c, d] : Array Oper).size = 4 from rfl, show (Array.replicate 4 false) = #[false, false, false, false] from rfl]
  have st0 : ∀ (t : Nat), Region.linearise.go .any #[a, b, c, d] 4 t #[false, false, false, false] [] = Region.linearise.go .any #[a, b, c, d] 3 t #[true, false, false, false] [0] := by
    intro t
    rw [Region.linearise.go]
    simp only [rdy]
    simp [Nat.mod_one]
  have st3 : ∀ (t : Nat) (l : List Nat), Region.linearise.go .any #[a, b, c, d] 1 t #[true, true, true, false] l = (3 :: l).reverse := by
    intro t l
    rw [Region.linearise.go]
    simp only [rdy]
    simp [Nat.mod_one, Region.linearise.go]
  have st12 : ∀ (t : Nat) (l : List Nat), Region.linearise.go .any #[a, b, c, d] 2 t #[true, true, false, false] l = Region.linearise.go .any #[a, b, c, d] 1 t #[true, true, true, false] (2 :: l) := by
    intro t l
    rw [Region.linearise.go]
    simp only [rdy]
    simp [Nat.mod_one]
  have st21 : ∀ (t : Nat) (l : List Nat), Region.linearise.go .any #[a, b, c, d] 2 t #[true, false, true, false] l = Region.linearise.go .any #[a, b, c, d] 1 t #[true, true, true, false] (1 :: l) := by
    intro t l
    rw [Region.linearise.go]
    simp only [rdy]
    simp [Nat.mod_one]
  rw [st0, Region.linearise.go]
  simp only [rdy]
  have e : ([0, 1, 2, 3].filter fun i => match i with
        | 0 => !true
        | 1 => !false && true
        | 2 => !false && true
        | 3 => !false && (true && (true && (false && false)))
        | _ => false) = [1, 2] := rfl
  rw [e]
  rcases idx_or (a := 1) (b := 2) t with h | h
  · left
    rw [h]
    simp only []
    rw [show (#[true, false, false, false] : Array Bool).setIfInBounds 1 true = #[true, true, false, false] from rfl, st12, st3]
    rfl
  · right
    rw [h]
    simp only []
    rw [show (#[true, false, false, false] : Array Bool).setIfInBounds 2 true = #[true, false, true, false] from rfl, st21, st3]
    rfl

theorem noGuards_spec : ∀ {l : List Oper}, noGuards l = true → ∀ o ∈ l, o.guard = none
  | [], _, o, h => by simp at h
  | q :: l, hn, o, h => by
    simp only [noGuards, Bool.and_eq_true] at hn
    rcases List.mem_cons.1 h with rfl | h
    · cases hg : o.guard with
      | none => rfl
      | some x => rw [hg] at hn; simp at hn
    · exact noGuards_spec hn.2 o h

theorem flip_parts {P : Program} {h : Hint} {ops : Array Oper} {gs : List Grp} (e : flipOf P h ops.toList = some gs) :
    ∃ a b c d, ops = #[a, b, c, d] ∧ noGuards [a, b, c, d] = true ∧ bindsOf a = [] ∧ bindsOf b = [0] ∧ bindsOf c = [0] ∧ bindsOf d = [0, 0, 1, 2] ∧ cGroups P h true ops [a, c, b, d] = some gs := by
  unfold flipOf at e
  split at e
  · rename_i a b c d hl
    cases hq : (noGuards [a, b, c, d] && ((bindsOf a == []) && ((bindsOf b == [0]) && ((bindsOf c == [0]) && (bindsOf d == [0, 0, 1, 2]))))) with
    | false => rw [hq] at e; simp at e
    | true =>
      rw [hq] at e
      simp only [cond_true] at e
      simp only [Bool.and_eq_true, beq_iff_eq] at hq
      have ho : ops = [a, b, c, d].toArray := by rw [← hl]
      exact ⟨a, b, c, d, ho, hq.1, hq.2.1, hq.2.2.1, hq.2.2.2.1, hq.2.2.2.2, by rw [ho]; exact e⟩
  · simp at e
end Go.AM
namespace Go.AM
open Go

/-! # The walk through a function's text -/

def edgesDown : Nat → List Oper → Bool
  | _, [] => true
  | j, o :: l => o.after.toList.all (fun e => !Region.binds .any e || Nat.blt e.on j) && edgesDown (j + 1) l

def apart1 (p : List Nat) (x : FOp) : List (Nat × FOp) → Bool
  | [] => true
  | (i, y) :: l => (memN i p || apartF y x) && apart1 p x l

def apartAll (pr : List (List Nat)) : Nat → List (Nat × FOp) → List FOp → Bool
  | _, _, [] => true
  | j, seen, x :: l => apart1 (precOf pr j) x seen && apartAll pr (j + 1) ((j, x) :: seen) l

def guardOk (x : FOp) : Bool := !dstIn x.2.dst (usesG x.1)
def resOk (rs : List Nat) (x : FOp) : Bool := match x.1 with
  | none => true
  | some _ => !dstIn x.2.dst rs

def okRegion (P : Program) (h : Hint) (rs : List Nat) (ops : Array Oper) (draw : Bool) : Bool := match cFlat P h draw ops ops.toList with
  | none => true
  | some fl => fl.all guardOk && (bif draw then edgesDown 0 ops.toList && apartAll (precs ops.toList) 0 [] fl else fl.all (resOk rs))

def okCode (P : Program) (h : Hint) (rs : List Nat) : Code → Bool
  | .region _ ops draw => okRegion P h rs ops draw
  | .seq a b => okCode P h rs a && okCode P h rs b
  | .cond _ a b => okCode P h rs a && okCode P h rs b
  | .block _ b => okCode P h rs b
  | .loop b => okCode P h rs b
  | _ => true

def resSlots : List CRes → List Nat
  | [] => []
  | .tmp t :: l => t :: resSlots l
  | .cell a _ _ :: l => a :: resSlots l

theorem edgesDown_spec {l : List Oper} : ∀ {j : Nat}, edgesDown j l = true → ∀ (i : Nat) (o : Oper), l[i]? = some o → ∀ e ∈ o.after.toList, Region.binds .any e = true → e.on < j + i := by
  induction l with
  | nil => intro j _ i o h; simp at h
  | cons q l ih =>
    intro j h i o ho e he hb
    simp only [edgesDown, Bool.and_eq_true] at h
    cases i with
    | zero =>
      simp at ho; subst ho
      have := List.all_eq_true.1 h.1 e he
      rw [hb] at this
      simpa using this
    | succ i =>
      have := ih h.2 i o (by simpa using ho) e he hb
      omega

theorem apart1_spec {p : List Nat} {x : FOp} : ∀ {l : List (Nat × FOp)}, apart1 p x l = true → ∀ q ∈ l, q.1 ∉ p → apartF q.2 x = true
  | [], _, q, hq, _ => by simp at hq
  | (i, y) :: l, h, q, hq, hn => by
    simp only [apart1, Bool.and_eq_true, Bool.or_eq_true] at h
    rcases List.mem_cons.1 hq with rfl | hq
    · rcases h.1 with h1 | h1
      · exact absurd (memN_iff.1 h1) hn
      · exact h1
    · exact apart1_spec h.2 q hq hn

theorem apartAll_spec {pr : List (List Nat)} : ∀ {l : List FOp} {j : Nat} {seen : List (Nat × FOp)}, apartAll pr j seen l = true →
    ∀ (i : Nat) (x : FOp), l[i]? = some x → (∀ q ∈ seen, q.1 ∉ precOf pr (j + i) → apartF q.2 x = true) ∧ ∀ t y, t < i → l[t]? = some y → (j + t) ∉ precOf pr (j + i) → apartF y x = true
  | [], j, seen, _, i, x, hx => by simp at hx
  | z :: l, j, seen, h, i, x, hx => by
    simp only [apartAll, Bool.and_eq_true] at h
    cases i with
    | zero =>
      simp at hx; subst hx
      exact ⟨fun q hq hn => apart1_spec h.1 q hq hn, fun t y ht => by omega⟩
    | succ i =>
      obtain ⟨h1, h2⟩ := apartAll_spec h.2 i x (by simpa using hx)
      have e : j + (i + 1) = j + 1 + i := by omega
      refine ⟨fun q hq hn => h1 q (by simp [hq]) (by rw [← e]; exact hn), ?_⟩
      intro t y ht hy hn
      cases t with
      | zero =>
        simp at hy; subst hy
        exact h1 (j, z) (by simp) (by rw [← e]; exact hn)
      | succ t =>
        exact h2 t y (by omega) (by simpa using hy) (by rw [← e, show j + 1 + t = j + (t + 1) by omega]; exact hn)

theorem stat1_spec {p : List Nat} {k : Kind3} : ∀ {l : List (Nat × Kind3)}, stat1 p k l = true → ∀ q ∈ l, q.1 ∉ p → meet3 q.2 k = false
  | [], _, q, hq, _ => by simp at hq
  | (i, y) :: l, h, q, hq, hn => by
    simp only [stat1, Bool.and_eq_true, Bool.or_eq_true, Bool.not_eq_true'] at h
    rcases List.mem_cons.1 hq with rfl | hq
    · rcases h.1 with h1 | h1
      · exact absurd (memN_iff.1 h1) hn
      · exact h1
    · exact stat1_spec h.2 q hq hn

theorem statAll_spec {pr : List (List Nat)} : ∀ {l : List Kind3} {j : Nat} {seen : List (Nat × Kind3)}, statAll pr j seen l = true →
    ∀ (i : Nat) (x : Kind3), l[i]? = some x → (∀ q ∈ seen, q.1 ∉ precOf pr (j + i) → meet3 q.2 x = false) ∧ ∀ t y, t < i → l[t]? = some y → (j + t) ∉ precOf pr (j + i) → meet3 y x = false
  | [], j, seen, _, i, x, hx => by simp at hx
  | z :: l, j, seen, h, i, x, hx => by
    simp only [statAll, Bool.and_eq_true] at h
    cases i with
    | zero =>
      simp at hx; subst hx
      exact ⟨fun q hq hn => stat1_spec h.1 q hq hn, fun t y ht => by omega⟩
    | succ i =>
      obtain ⟨h1, h2⟩ := statAll_spec h.2 i x (by simpa using hx)
      have e : j + (i + 1) = j + 1 + i := by omega
      refine ⟨fun q hq hn => h1 q (by simp [hq]) (by rw [← e]; exact hn), ?_⟩
      intro t y ht hy hn
      cases t with
      | zero =>
        simp at hy; subst hy
        exact h1 (j, z) (by simp) (by rw [← e]; exact hn)
      | succ t =>
        exact h2 t y (by omega) (by simpa using hy) (by rw [← e, show j + 1 + t = j + (t + 1) by omega]; exact hn)

theorem flatten_mem {gs : List Grp} {g : Grp} (hg : g ∈ gs) {o : COper} (ho : o ∈ g.ops) : (g.guard, o) ∈ flatten gs := by
  induction gs with
  | nil => simp at hg
  | cons q l ih =>
    simp only [flatten, List.mem_append, List.mem_map]
    rcases List.mem_cons.1 hg with rfl | hg
    · exact .inl ⟨o, ho, rfl⟩
    · exact .inr (ih hg)

section
variable {P : Program} {hn : Hint} {C : Cfg} {E : Env} {B : Base} {ops : Array Oper}

theorem cFlat_len {dr : Bool} : ∀ {l : List Oper} {fl : List FOp}, cFlat P hn dr ops l = some fl → fl.length = l.length
  | [], fl, h => by simp only [cFlat, Option.some.injEq] at h; subst h; rfl
  | o :: l, fl, h => by
    obtain ⟨g, r, hg, hr, rfl⟩ := cFlat_cons h
    simp [cFlat_len hr]

/-- How a walk ends. -/
def WQ (P : Program) (B : Base) (rec : Bool) (K : List V → St → Prop) (KP : V → List V → St → Prop) : Exit → Act → List Frame → World → Prop
  | .normal, a, cs, w => ∃ s st F G, K s st ∧ SR P B F G s st a cs w ∧ (rec = true ∨ st.rc = .none)
  | .ret, a, cs, w => ∃ s st F G, K s st ∧ SR P B F G s st a cs w ∧ (rec = true ∨ st.rc = .none)
  | .panic ch, a, cs, w => ∃ v u s st F G, KP v s st ∧ ch = [{ v := u, recovered := false }] ∧ SR P B F G s st a cs w ∧ (rec = true ∨ st.rc = .none) ∧ RepV w.heap F G v u
  | _, _, _, _ => False

theorem ops_arrive {rec : Bool} {Q : Exit → Act → List Frame → World → Prop} {b : Frame} (hb : rec = true → b.kind = .deferred ∧ b.roundOf = none) {l : List Nat} {a : Act} {cs : List Frame} {w : World}
    (h : OpsGo P ops rec Q l a cs w) (k : List Item) : ∃ e a' cs' w', Q e a' cs' w' ∧ Arrives P (lone (b.at a (.inRegion ops l :: k)) cs w) b k cs' e a' w' := by
  cases rec with
  | true => exact wp_opsS l a cs w h.toS b k (hb rfl).1 (hb rfl).2
  | false =>
    obtain ⟨e, a', w', q, r⟩ := wp_ops l a w (OpsGo.toN l a cs w h) b k cs
    exact ⟨e, a', cs, w', q, r⟩

theorem SR.drawn {F : Nat → Prop} {G : Gh} {s : List V} {st : St} {a : Act} {cs : List Frame} {w : World} (x : SR P B F G s st a cs w) (n : Nat) : SR P B F G s st a cs { w with drawn := n } :=
  ⟨⟨⟨x.ch.inv.fresh, x.ch.inv.gfresh, x.ch.inv.row, x.ch.inv.sep, x.ch.inv.fb, x.ch.inv.nf, x.ch.inv.stamp⟩, ⟨x.ch.ext.size, x.ch.ext.keep, x.ch.ext.os, x.ch.ext.tape, x.ch.ext.output, x.ch.ext.f, x.ch.ext.f', x.ch.ext.g⟩, x.ch.own⟩, x.sl, x.df, x.rc, x.gb⟩

/-- A region that draws, in any order. -/
theorem draw_go (hE : EnvOk P B.gl E) (hS : SpOk P B.gl C) (hgl : hn.gl = B.gl) (hm : P.follows .mixedOrders = true) {rec : Bool} {Q : Exit → Act → List Frame → World → Prop} {fl : List FOp} (hfl : cFlat P hn true ops ops.toList = some fl) (hd : edgesDown 0 ops.toList = true)
    {R : Nat → Sg → Sg → Prop} (hR : ∀ i a b, R i a b → ∃ x, fl[i]? = some x ∧ FS C E x a b) (hsw : ∀ t i, t < i → i < ops.size → ¬ t ∈ precOf (precs ops.toList) i → Sw R t i)
    {s s' : List V} {st st' : St} (hrun : RunO R (List.range' 0 ops.size) (s, st) (s', st')) (hQ : ∀ a cs w F G, SR P B F G s' st' a cs w → (rec = true ∨ st'.rc = .none) → Q .normal a cs w)
    {a : Act} {cs : List Frame} {w : World} {F : Nat → Prop} {G : Gh} (x : SR P B F G s st a cs w) (hrec : rec = true ∨ st.rc = .none) (t : Nat) :
    OpsGo P ops rec Q (Region.schedule (P.follows .mixedOrders) ops t) a cs w := by
  simp only [Region.schedule, hm, Bool.true_or, if_true, Region.linearise]
  refine lin_go hE hS hgl hfl hR hsw ?_ hQ ops.size (List.range' 0 ops.size) t _ s st a cs w F G (by simp) ?_ (by simp) ?_ ?_ hrun x hrec
  · intro i o e ho he hb
    have := edgesDown_spec hd i o (by simpa using ho) e he hb
    omega
  · exact List.pairwise_lt_range'
  · intro i
    simp only [List.mem_range'_1, Nat.zero_le, true_and, Nat.zero_add]
    rw [Array.getElem?_replicate]
    by_cases h : i < ops.size <;> simp [h]
  · intro j hj hjn
    exact absurd (List.mem_range'_1.2 ⟨Nat.zero_le _, by omega⟩) hjn


end
end Go.AM
namespace Go.AM
open Go

section
variable {P : Program} {hn : Hint} {C : Cfg} {E : Env} {B : Base} {ops : Array Oper} {α : Type}

def RF (C : Cfg) (E : Env) (fl : List FOp) (i : Nat) (a b : Sg) : Prop := ∃ x, fl[i]? = some x ∧ FS C E x a b

theorem flatC_run {fl : List FOp} {k : List V → St → Option α} {out : α} : ∀ (l : List FOp) (i : Nat) (s : List V) (st : St), fl.drop i = l → flatC C E k (fun _ _ _ => none) l s st = some out →
    ∃ s' st', RunO (RF C E fl) (List.range' i l.length) (s, st) (s', st') ∧ k s' st' = some out
  | [], i, s, st, _, h => ⟨s, st, .nil _, h⟩
  | (g, o) :: l, i, s, st, hl, h => by
    have hx : fl[i]? = some (g, o) := by
      have : (fl.drop i)[0]? = some (g, o) := by rw [hl]; rfl
      rw [List.getElem?_drop] at this
      simpa using this
    have hl' : fl.drop (i + 1) = l := by rw [← List.drop_drop, hl]; rfl
    simp only [flatC] at h
    rw [List.length_cons, List.range'_succ]
    cases hw : wantedV s g with
    | none => rw [hw] at h; simp at h
    | some b =>
      rw [hw] at h
      cases b with
      | true =>
        simp only at h
        rcases opC_cases h with ⟨v, st1, h1, h2⟩ | ⟨v, st1, h1, h2⟩
        · obtain ⟨s', st', q1, q2⟩ := flatC_run l (i + 1) _ _ hl' h1
          exact ⟨s', st', .cons i _ _ _ _ ⟨(g, o), hx, .inl ⟨hw, v, h2 _ _ _, rfl⟩⟩ q1, q2⟩
        · simp at h1
      | false =>
        simp only at h
        obtain ⟨s', st', q1, q2⟩ := flatC_run l (i + 1) _ _ hl' h
        exact ⟨s', st', .cons i _ _ (putS s o.dst (.tup []), st) _ ⟨(g, o), hx, .inr ⟨hw, rfl, rfl⟩⟩ q1, q2⟩

theorem mask_rep {h : Array Obj} {F : Nat → Prop} {G : Gh} {t : Array Value} (l : List Nat) : ∀ {s : List V} {u : List Value} (n : Nat), Reps h F G s u.toArray → Reps h F G (maskGo l s n) u.toArray
  | [], u, n, r => r
  | v :: s, u, n, r => by
    cases u with
    | nil => have := r.1; simp at this
    | cons y u =>
      have r' : Reps h F G s u.toArray := ⟨by simpa using r.1, fun i a b h1 h2 => r.2 (i + 1) a b (by simpa using h1) (by simpa using h2)⟩
      have hy := r.2 0 v y (by simp) (by simp)
      simp only [maskGo]
      refine Reps.cons ?_ (mask_rep (t := t) l (n + 1) r')
      cases memN n l with
      | true => exact hy
      | false => exact .d _ _ (.junk _)

theorem SR.live {F : Nat → Prop} {G : Gh} {s : List V} {st : St} {a : Act} {cs : List Frame} {w : World} (x : SR P B F G s st a cs w) (l : Option (List Nat)) : SR P B F G (liveAt l s) st a cs w := by
  cases l with
  | none => exact x
  | some l => exact ⟨x.ch, mask_rep (t := a.tmps) (u := a.tmps.toList) l 0 x.sl, x.df, x.rc, x.gb⟩

theorem resultsV_put {s : List V} {d : Option Nat} {v : V} : ∀ {rs : List CRes}, dstIn d (resSlots rs) = false → resultsV (putS s d v) rs = resultsV s rs
  | [], _ => rfl
  | r :: rs, h => by
    have split2 : ∀ t, resSlots (r :: rs) = t :: resSlots rs → d ≠ some t ∧ dstIn d (resSlots rs) = false := by
      intro t ht
      rw [ht] at h
      constructor
      · rintro rfl
        simp [dstIn, memN] at h
      · cases d with
        | none => rfl
        | some d => simp only [dstIn, memN, Bool.or_eq_false_iff] at h ⊢; exact h.2
    cases r with
    | tmp t =>
      obtain ⟨h1, h2⟩ := split2 t rfl
      simp only [resultsV, putS_other h1, resultsV_put h2]
    | cell t n b =>
      obtain ⟨h1, h2⟩ := split2 t rfl
      simp only [resultsV, putS_other h1, resultsV_put h2]

theorem leaveP_put {fn : CFn} {d : Option Nat} (h : dstIn d (if fn.defers then resSlots fn.results else []) = false) (v : V) (s : List V) (st : St) (x : V) : leaveP E fn v (putS s d x) st = leaveP E fn v s st := by
  unfold leaveP
  cases hd : fn.defers with
  | false => rfl
  | true =>
    rw [hd] at h
    simp only [if_true] at h
    simp only [cond_true, resultsV_put h]

theorem grd_of {gs : List Grp} (h : (flatten gs).all guardOk = true) : ∀ g ∈ gs, ∀ j w, g.guard = some (j, w) → ∀ o ∈ g.ops, o.dst ≠ some j := by
  intro g hg j w hj o ho he
  have := List.all_eq_true.1 h _ (flatten_mem hg ho)
  rw [hj] at this
  simp [guardOk, usesG, dstIn, he, memN] at this

/-- A region. -/
theorem region_snd (hE : EnvOk P B.gl E) (hS : SpOk P B.gl C) (hgl : hn.gl = B.gl) (hm : P.follows .mixedOrders = true) {rs : List Nat} {rec : Bool} {b : Frame} (hb : rec = true → b.kind = .deferred ∧ b.roundOf = none)
    {id : Nat} {draw : Bool} (hok : okRegion P hn rs ops draw = true) {gs : List Grp} (hgs : cGroups P hn draw ops ops.toList = some gs) {live : Option (List Nat)} {rk : List V → St → Option Out} {pk : V → List V → St → Option Out}
    (hpk : ∀ v s st d x, dstIn d rs = false → pk v (putS s d x) st = pk v s st) {out : Out}
    {s : List V} {st : St} (h : (match (if draw then drawOf P hn ops.toList else .no) with
      | .dyn pr => evGsL C E pr rk 0 gs [] (liveAt live s) st
      | .stat => evGs C E rk (fun _ _ _ => none) gs (liveAt live s) st
      | .flip gs2 => both (evGs C E (fun s st' => rk s (St.below st.next st')) (fun _ _ _ => none) gs (liveAt live s) st) (evGs C E (fun s st' => rk s (St.below st.next st')) (fun _ _ _ => none) gs2 (liveAt live s) st)
      | .no => evGs C E rk pk gs (liveAt live s) st) = some out)
    {a : Act} {cs : List Frame} {w : World} {F : Nat → Prop} {G : Gh} (x : SR P B F G s st a cs w) (hrec : rec = true ∨ st.rc = .none) (k : List Item) :
    ∃ e a' cs' w', WQ P B rec (fun s st => rk s st = some out) (fun v s st => pk v s st = some out) e a' cs' w' ∧ e ≠ .ret ∧ Arrives P (lone (b.at a (.code (.region id ops draw) :: k)) cs w) b k cs' e a' w' := by
  have hfl := cGroups_flat hgs
  unfold okRegion at hok
  simp only [hfl, Bool.and_eq_true] at hok
  obtain ⟨hg, hok⟩ := hok
  have hlen := cFlat_len hfl
  have hlen2 : (flatten gs).length = ops.size := by rw [hlen]; simp
  have xl := x.live live
  -- the ends
  have fin : ∀ {m : Machine} {l : List Nat} {w1 : World}, OpsGo P ops rec (fun e a' cs' w' => WQ P B rec (fun s st => rk s st = some out) (fun v s st => pk v s st = some out) e a' cs' w' ∧ e ≠ .ret) l a cs w1 →
      Steps P m (lone (b.at a (.inRegion ops l :: k)) cs w1) → ∃ e a' cs' w', WQ P B rec (fun s st => rk s st = some out) (fun v s st => pk v s st = some out) e a' cs' w' ∧ e ≠ .ret ∧ Arrives P m b k cs' e a' w' := by
    intro m l w1 ho hs
    obtain ⟨e, a', cs', w', ⟨q1, q2⟩, r⟩ := ops_arrive hb ho k
    exact ⟨e, a', cs', w', q1, q2, .of_steps hs r⟩
  cases draw with
  | false =>
    simp only [Bool.false_eq_true, if_false] at h
    simp only [cond_false] at hok
    have hflat := evGs_flat gs _ st (by
      intro g hgm j w' hj
      refine ⟨grd_of hg g hgm j w' hj, ?_⟩
      intro o ho v s st y
      refine hpk v s st o.dst y ?_
      have := List.all_eq_true.1 hok _ (flatten_mem hgm ho)
      rw [hj] at this
      simpa [resOk] using this) h
    refine fin (l := List.range ops.size) (w1 := w) ?_ (.one step_region)
    have e1 : List.range ops.size = List.range' 0 ops.toList.length := by rw [List.range_eq_range']; simp
    rw [e1]
    refine flat_go hE hS hgl (hn := hn) (dr := false) ?_ ?_ ops.toList 0 (flatten gs) _ st a cs w F G rfl hfl xl hrec hflat
    · intro s st a cs w F G hk' x' hr'
      exact ⟨⟨s, st, F, G, hk', x', hr'⟩, by simp⟩
    · intro v u s st a cs w F G hk' x' hr' ru
      exact ⟨⟨v, u, s, st, F, G, hk', rfl, x', hr', ru⟩, by simp⟩
  | true =>
    simp only [if_true] at h
    simp only [cond_true, Bool.and_eq_true] at hok
    obtain ⟨hdn, hap⟩ := hok
    have apart : ∀ t i y z, t < i → (flatten gs)[t]? = some y → (flatten gs)[i]? = some z → t ∉ precOf (precs ops.toList) i → apartF y z = true := by
      intro t i y z hti hy hz hn
      have := (apartAll_spec hap i z hz).2 t y hti hy (by simpa using hn)
      exact this
    refine fin (l := Region.schedule (P.follows .mixedOrders) ops (w.tape w.drawn (.order b.fn id))) (w1 := { w with drawn := w.drawn + 1 }) ?_ (.one step_region_draw)
    unfold drawOf at h
    split at h
    · -- looked at as it runs
      rename_i pr hpr
      split at hpr
      · simp at hpr
      · split at hpr
        · simp at hpr
        simp only [Draw.dyn.injEq] at hpr
        subst hpr
        have hflat := evGsL_flat gs 0 [] _ st (grd_of hg) h
        obtain ⟨lam, s', st', q1, q2, q3, q4, q5⟩ := flatL_run (flatten gs) 0 [] _ st rfl hflat
        rw [hlen2] at q1 q5
        refine draw_go (C := C) hE hS hgl hm hfl hdn (R := RL C E (flatten gs) lam) ?_ ?_ q1 ?_ (xl.drawn _) hrec _
        · rintro i a b ⟨z, hz, hz2⟩
          exact ⟨z, hz, hz2.fs⟩
        · rintro t i hti hin hnp a b c ⟨y, hy, hy2⟩ ⟨z, hz, hz2⟩
          have hme := q5 t i (by omega) hti (by omega) hnp
          obtain ⟨b', r1, r2⟩ := dyn_swap (apart t i y z hti hy hz hnp) hme hy2 hz2
          exact ⟨b', ⟨z, hz, r1⟩, ⟨y, hy, r2⟩⟩
        · intro a cs w F G x' hr'
          exact ⟨⟨s', st', F, G, q2, x', hr'⟩, by simp⟩
    · -- by kind
      rename_i hst
      split at hst
      · rename_i hall
        have hflat := evGs_flat gs _ st (by
          intro g hgm j w' hj
          exact ⟨grd_of hg g hgm j w' hj, fun o ho v s st y => rfl⟩) h
        obtain ⟨s', st', q1, q2⟩ := flatC_run (flatten gs) 0 _ st rfl hflat
        rw [hlen2] at q1
        refine draw_go (C := C) hE hS hgl hm hfl hdn (R := RF C E (flatten gs)) (fun i a b h => h) ?_ q1 ?_ (xl.drawn _) hrec _
        · rintro t i hti hin hnp a b c ⟨y, hy, hy2⟩ ⟨z, hz, hz2⟩
          have kind : ∀ (j : Nat) (q : FOp), (flatten gs)[j]? = some q → (ops.toList.map fun o => (quietCall hn true (cOp P hn o)).kind)[j]? = some q.2.op.kind := by
            intro j q hq
            obtain ⟨o, g, ho, hgd, rfl⟩ := cFlat_get hfl j q hq
            rw [List.getElem?_map, ho]; rfl
          have hme := (statAll_spec hall i _ (kind i z hz)).2 t _ hti (kind t y hy) (by simpa using hnp)
          obtain ⟨b', r1, r2⟩ := stat_swap (apart t i y z hti hy hz hnp) hme hy2 hz2
          exact ⟨b', ⟨z, hz, r1⟩, ⟨y, hy, r2⟩⟩
        · intro a cs w F G x' hr'
          exact ⟨⟨s', st', F, G, q2, x', hr'⟩, by simp⟩
      · split at hst <;> simp at hst
    · -- in either order
      rename_i gs2 hst
      split at hst
      · simp at hst
      · split at hst
        · rename_i gs3 hfp
          simp only [Draw.flip.injEq] at hst
          subst hst
          obtain ⟨h1, h2⟩ := both_some h
          obtain ⟨oa, ob, oc, od, ho, hng, ba, bb, bc, bd, hgs2⟩ := flip_parts hfp
          have hfl2 := cGroups_flat hgs2
          have none2 : ∀ {l : List Oper} {fl : List FOp}, (∀ o ∈ l, o.guard = none) → cFlat P hn true ops l = some fl → ∀ q ∈ fl, q.1 = none := by
            intro l fl hl hf q hq
            obtain ⟨i, hi⟩ := List.getElem?_of_mem hq
            obtain ⟨o, g, e1, e2, rfl⟩ := cFlat_get hf i q hi
            have := hl o (List.mem_of_getElem? e1)
            unfold cGuard at e2
            rw [this] at e2
            simp only [Option.some.injEq] at e2
            exact e2.symm
          have hgd := noGuards_spec hng
          have hn1 := none2 (l := ops.toList) (by rw [ho]; exact hgd) hfl
          have hn2 := none2 (l := [oa, oc, ob, od]) (fun o h => hgd o (by simp only [List.mem_cons, List.not_mem_nil, or_false] at h ⊢; rcases h with h | h | h | h <;> simp [h])) hfl2
          have vac : ∀ {gs : List Grp}, (∀ q ∈ flatten gs, q.1 = none) → ∀ g ∈ gs, ∀ (j : Nat) (w' : Bool), g.guard = some (j, w') → ∀ o, ¬ o ∈ g.ops := by
            intro gs hq g hg j w' hj o ho
            have := hq _ (flatten_mem hg ho)
            rw [hj] at this
            simp at this
          have hflat1 := evGs_flat gs _ st (by
            intro g hgm j w' hj
            exact ⟨fun o ho => absurd ho (vac hn1 g hgm j w' hj o), fun o ho v s st y => rfl⟩) h1
          have hflat2 := evGs_flat gs3 _ st (by
            intro g hgm j w' hj
            exact ⟨fun o ho => absurd ho (vac hn2 g hgm j w' hj o), fun o ho v s st y => rfl⟩) h2
          have hsch : Region.schedule (P.follows .mixedOrders) ops (w.tape w.drawn (.order b.fn id)) = [0, 1, 2, 3] ∨ Region.schedule (P.follows .mixedOrders) ops (w.tape w.drawn (.order b.fn id)) = [0, 2, 1, 3] := by
            simp only [Region.schedule, hm, Bool.true_or, if_true]
            rw [ho]
            exact lin_flip ba bb bc bd _
          rcases hsch with hs | hs
          · rw [hs]
            refine flat_goL hE hS hgl (hn := hn) (dr := true) (k := fun s st' => rk s (St.below st.next st')) (kp := fun _ _ _ => none) (out := out) ?_ ?_ ops.toList [0, 1, 2, 3] (flatten gs) _ st a cs _ F G (by rw [ho]; rfl) hfl (xl.drawn _) hrec hflat1
            · intro s st1 a cs w F G hk' x' hr'
              exact ⟨⟨s, St.below st.next st1, F, G, hk', ⟨x'.ch.drop st.next st1.dfr st1.rc, x'.sl, x'.df, x'.rc, x'.gb⟩, hr'⟩, by simp⟩
            · intro v u s st a cs w F G hk'
              simp at hk'
          · rw [hs]
            refine flat_goL hE hS hgl (hn := hn) (dr := true) (k := fun s st' => rk s (St.below st.next st')) (kp := fun _ _ _ => none) (out := out) ?_ ?_ [oa, oc, ob, od] [0, 2, 1, 3] (flatten gs3) _ st a cs _ F G (by rw [ho]; rfl) hfl2 (xl.drawn _) hrec hflat2
            · intro s st1 a cs w F G hk' x' hr'
              exact ⟨⟨s, St.below st.next st1, F, G, hk', ⟨x'.ch.drop st.next st1.dfr st1.rc, x'.sl, x'.df, x'.rc, x'.gb⟩, hr'⟩, by simp⟩
            · intro v u s st a cs w F G hk'
              simp at hk'
        · simp at hst
    · rename_i hst
      split at hst
      · simp at hst
      · split at hst <;> simp at hst

end
end Go.AM
namespace Go.AM
open Go

/-- What is left to do, as the two machines have it. -/
inductive Todo (P : Program) (hn : Hint) (rs : List Nat) : List CItem → List Item → Prop
  | nil : Todo P hn rs [] []
  | code (c : Code) (hc : okCode P hn rs c = true) (k : List CItem) (k' : List Item) (r : Todo P hn rs k k') : Todo P hn rs (.code (cCode P hn c) :: k) (.code c :: k')
  | inBlock (id : Nat) (k : List CItem) (k' : List Item) (r : Todo P hn rs k k') : Todo P hn rs (.inBlock id :: k) (.inBlock id :: k')
  | inLoop (c : Code) (hc : okCode P hn rs c = true) (k : List CItem) (k' : List Item) (r : Todo P hn rs k k') : Todo P hn rs (.inLoop (cCode P hn c) :: k) (.inLoop c :: k')

section
variable {P : Program} {hn : Hint} {C : Cfg} {E : Env} {B : Base} {rs : List Nat}

theorem todo_exit {id : Nat} {k0 : List Item} {k : List CItem} {k' : List Item} (r : Todo P hn rs k k') : ∀ {k2}, exitC id k = some k2 → ∃ k2', exitTo id (k' ++ k0) = some (k2' ++ k0) ∧ Todo P hn rs k2 k2' := by
  induction r with
  | nil => intro k2 h; simp [exitC] at h
  | code c hc k k' r ih => intro k2 h; simp only [exitC] at h; obtain ⟨q, h1, h2⟩ := ih h; exact ⟨q, by simpa [exitTo] using h1, h2⟩
  | inLoop c hc k k' r ih => intro k2 h; simp only [exitC] at h; obtain ⟨q, h1, h2⟩ := ih h; exact ⟨q, by simpa [exitTo] using h1, h2⟩
  | inBlock j k k' r ih =>
    intro k2 h
    simp only [exitC] at h
    cases hj : Nat.beq j id with
    | true =>
      rw [hj] at h
      simp only [cond_true, Option.some.injEq] at h
      subst h
      have := Nat.eq_of_beq_eq_true hj
      subst this
      exact ⟨k', by simp [exitTo], r⟩
    | false =>
      rw [hj] at h
      simp only [cond_false] at h
      have hne : j ≠ id := by rintro rfl; rw [beq_self] at hj; simp at hj
      obtain ⟨q, h1, h2⟩ := ih h
      exact ⟨q, by simp [exitTo, hne, h1], h2⟩

/-- The whole of a function's text. -/
theorem walk (hE : EnvOk P B.gl E) (hS : SpOk P B.gl C) (hgl : hn.gl = B.gl) (hm : P.follows .mixedOrders = true) {fn : CFn} (hrs : rs = if fn.defers then resSlots fn.results else []) {rec : Bool} {b : Frame} (hb : rec = true → b.kind = .deferred ∧ b.roundOf = none) (k0 : List Item) {out : Out} :
    ∀ (n : Nat) (todo : List CItem) (items : List Item) (s : List V) (st : St) (a : Act) (cs : List Frame) (w : World) (F : Nat → Prop) (G : Gh), runA C E fn n todo s st = some out → Todo P hn rs todo items →
      SR P B F G s st a cs w → (rec = true ∨ st.rc = .none) →
      ∃ e a' cs' w', WQ P B rec (fun s st => leaveR E fn s st = some out) (fun v s st => leaveP E fn v s st = some out) e a' cs' w' ∧ Arrives P (lone (b.at a (items ++ k0)) cs w) b k0 cs' e a' w'
  | 0, todo, items, s, st, a, cs, w, F, G, h, _, _, _ => by simp [runA] at h
  | n + 1, todo, items, s, st, a, cs, w, F, G, h, ht, x, hr => by
    have ih := fun todo items s st a cs w F G => walk hE hS hgl hm hrs hb k0 (out := out) n todo items s st a cs w F G
    have h : stepA C E fn (runA C E fn n) todo s st = some out := h
    -- one step
    have one : ∀ {todo' items'}, runA C E fn n todo' s st = some out → Todo P hn rs todo' items' → step P (lone (b.at a (items ++ k0)) cs w) = .next (lone (b.at a (items' ++ k0)) cs w) →
        ∃ e a' cs' w', WQ P B rec (fun s st => leaveR E fn s st = some out) (fun v s st => leaveP E fn v s st = some out) e a' cs' w' ∧ Arrives P (lone (b.at a (items ++ k0)) cs w) b k0 cs' e a' w' := by
      intro todo' items' h1 h2 h3
      obtain ⟨e, a', cs', w', q, r⟩ := ih _ _ _ _ _ _ _ F G h1 h2 x hr
      exact ⟨e, a', cs', w', q, .of_steps (.one h3) r⟩
    cases ht with
    | nil =>
      simp only [stepA] at h
      exact ⟨.normal, a, cs, w, ⟨s, st, F, G, h, x, hr⟩, Steps.refl P _⟩
    | inBlock id k k' r => exact one h r step_inBlock
    | inLoop c hc k k' r => exact one h (.code c hc _ _ (.inLoop c hc _ _ r)) step_inLoop
    | code c hc k k' r =>
      cases c with
      | skip => exact one h r step_skip
      | region id ops draw =>
        simp only [cCode] at h
        cases hgs : cGroups P hn draw ops ops.toList with
        | none => simp [hgs, stepA] at h
        | some gs =>
          simp only [hgs, stepA] at h
          obtain ⟨e, a1, cs1, w1, hq, hne, harr⟩ := region_snd (C := C) hE hS hgl hm (rs := rs) hb hc hgs (rk := runA C E fn n k) (pk := leaveP E fn) (fun v s st d x hd => leaveP_put (by rw [← hrs]; exact hd) v s st x) (out := out) (live := hn.live.lookup id) (s := s) (st := st)
            (by revert h; generalize (if draw = true then drawOf P hn ops.toList else Draw.no) = dd; intro h; cases dd <;> exact h) x hr (k' ++ k0)
          cases e with
          | normal =>
            obtain ⟨s1, st1, F1, G1, hk, x1, hr1⟩ := hq
            obtain ⟨e, a', cs', w', q, r'⟩ := ih _ _ _ _ _ _ _ F1 G1 hk r x1 hr1
            exact ⟨e, a', cs', w', q, .of_steps harr r'⟩
          | ret => exact absurd rfl hne
          | panic ch => exact ⟨.panic ch, a1, cs1, w1, hq, harr⟩
          | exit => exact hq.elim
          | goto => exact hq.elim
          | outgrown => exact hq.elim
      | seq c d =>
        simp only [okCode, Bool.and_eq_true] at hc
        exact one h (.code c hc.1 _ _ (.code d hc.2 _ _ r)) step_seq
      | cond c y z =>
        simp only [okCode, Bool.and_eq_true] at hc
        simp only [cCode] at h
        cases hca : cArg hn.gl c with
        | none => simp [hca, stepA] at h
        | some o =>
          simp only [hca, stepA] at h
          cases hv : arg s o with
          | none => simp [hv] at h
          | some v =>
            simp only [hv, b1] at h
            cases hvb : vBool v with
            | none => simp [hvb] at h
            | some t =>
              simp only [hvb] at h
              have he : a.eval c = .bool t := by
                have hrep := arg_rep (gl := hn.gl) ⟨x.sl, by rw [hgl]; exact x.gb⟩ hca hv
                unfold vBool at hvb
                split at hvb
                · simp only [Option.some.injEq] at hvb; subst hvb
                  have hrep' := hrep.inv_d
                  generalize a.eval c = u at hrep'
                  cases hrep'
                  rfl
                · simp at hvb
              cases t with
              | true => exact one h (.code y hc.1 _ _ r) (by have := step_cond (P := P) (b := b) (a := a) (k := k' ++ k0) (cs := cs) (w := w) (x := y) (y := z) he; simpa using this)
              | false => exact one h (.code z hc.2 _ _ r) (by have := step_cond (P := P) (b := b) (a := a) (k := k' ++ k0) (cs := cs) (w := w) (x := y) (y := z) he; simpa using this)
      | block id c => exact one h (.code c hc _ _ (.inBlock id _ _ r)) step_block
      | loop c => exact one h (.code c hc _ _ (.inLoop c hc _ _ r)) step_loop
      | exit id =>
        simp only [cCode, stepA] at h
        cases hx : exitC id k with
        | none => simp [hx] at h
        | some k2 =>
          simp only [hx] at h
          obtain ⟨k2', e1, e2⟩ := todo_exit (k0 := k0) r hx
          exact one h e2 (step_exit e1)
      | ret =>
        simp only [cCode, stepA] at h
        exact ⟨.ret, a, cs, w, ⟨s, st, F, G, h, x, hr⟩, _, .one step_ret⟩
      | rangeFunc => simp [cCode, stepA] at h
      | scope => simp [cCode, stepA] at h
      | label => simp [cCode, stepA] at h
      | goto => simp [cCode, stepA] at h
      | refuse => simp [cCode, stepA] at h

end
end Go.AM
namespace Go.AM
open Go

/-! # Leaving a function -/
/-- The results as they lie. -/
inductive RsR (P : Program) (h : Array Obj) (F : Nat → Prop) (G : Gh) (t : Array Value) : List ResultVar → List (V × Option (Nat × Bool)) → Prop
  | nil : RsR P h F G t [] []
  | tmp (i : Tmp) (v : V) (l : List ResultVar) (l' : List (V × Option (Nat × Bool))) (r : RepV h F G v (t.getD i undef)) (rl : RsR P h F G t l l') : RsR P h F G t (.tmp i :: l) ((v, none) :: l')
  | cell (i : Tmp) (ty : TypeId) (n : Nat) (b : Bool) (v : V) (l : List ResultVar) (l' : List (V × Option (Nat × Bool))) (r : RepV h F G v (t.getD i undef)) (hn : tySize P ty = some n) (hb : tyAgg P ty = some b)
      (h1 : b = false → n = 1) (rl : RsR P h F G t l l') : RsR P h F G t (.cell i ty :: l) ((v, some (n, b)) :: l')

section
variable {P : Program} {w w' : World} {F F' : Nat → Prop} {G G' : Gh} {t : Array Value} {st st' : St}

theorem RsR.mono {h h' : Array Obj} (k : Keeps h h' F F' G G') {l : List ResultVar} {l' : List (V × Option (Nat × Bool))} (r : RsR P h F G t l l') : RsR P h' F' G' t l l' := by
  induction r with
  | nil => exact .nil
  | tmp i v l l' r _ ih => exact .tmp i v l l' (r.mono k) ih
  | cell i ty n b v l l' r hn hb h1 _ ih => exact .cell i ty n b v l l' (r.mono k) hn hb h1 ih

theorem getD_some {i : Nat} {u : Value} (h : t[i]? = some u) : t.getD i undef = u := by
  simp only [Array.getD_eq_getD_getElem?, h, Option.getD_some]

theorem rs_of {h : Array Obj} {s : List V} (hs : Reps h F G s t) : ∀ {l : List ResultVar} {cs : List CRes} {rs : List (V × Option (Nat × Bool))}, cResults P l = some cs → resultsV s cs = some rs → RsR P h F G t l rs
  | [], cs, rs, hc, hr => by
    simp only [cResults, Option.some.injEq] at hc
    subst hc
    simp only [resultsV, Option.some.injEq] at hr
    subst hr
    exact .nil
  | .tmp i :: l, cs, rs, hc, hr => by
    simp only [cResults] at hc
    cases h1 : cResults P l with
    | none => rw [h1] at hc; simp at hc
    | some r =>
      rw [h1] at hc
      simp only [Option.some.injEq] at hc
      subst hc
      simp only [resultsV, nth_eq] at hr
      cases h2 : s[i]? with
      | none => rw [h2] at hr; simp at hr
      | some v =>
        rw [h2] at hr
        simp only at hr
        cases h3 : resultsV s r with
        | none => rw [h3] at hr; simp at hr
        | some r' =>
          rw [h3] at hr
          simp only [Option.some.injEq] at hr
          subst hr
          obtain ⟨u, hu, ru⟩ := hs.get h2
          exact .tmp i v l r' (by rw [getD_some hu]; exact ru) (rs_of hs h1 h3)
  | .cell i ty :: l, cs, rs, hc, hr => by
    simp only [cResults] at hc
    cases hn : tySize P ty with
    | none => rw [hn] at hc; simp at hc
    | some n =>
      cases hb : tyAgg P ty with
      | none => rw [hn, hb] at hc; simp at hc
      | some b =>
        cases h1 : cResults P l with
        | none => rw [hn, hb, h1] at hc; simp at hc
        | some r =>
          rw [hn, hb, h1] at hc
          simp only at hc
          split at hc
          · simp at hc
          · rename_i hne
            simp only [Option.some.injEq] at hc
            subst hc
            simp only [resultsV, nth_eq] at hr
            cases h2 : s[i]? with
            | none => rw [h2] at hr; simp at hr
            | some v =>
              rw [h2] at hr
              simp only at hr
              cases h3 : resultsV s r with
              | none => rw [h3] at hr; simp at hr
              | some r' =>
                rw [h3] at hr
                simp only [Option.some.injEq] at hr
                subst hr
                obtain ⟨u, hu, ru⟩ := hs.get h2
                exact .cell i ty n b v l r' (by rw [getD_some hu]; exact ru) hn hb (by intro hbf; subst hbf; simpa using hne) (rs_of hs h1 h3)

/-- What a result variable's value is read by. -/
def readOne (t : Array Value) : ResultVar → Sem Value
  | .tmp i => pure (t.getD i undef)
  | .cell i ty => do loadVar ty (← asAddr (t.getD i undef))

theorem bind_run {α β : Type} {p : Pg α} {f : α → Pg β} : ∀ {st st' : St} {v : β}, (p.bind f).run st = some (v, st') → ∃ a st1, p.run st = some (a, st1) ∧ (f a).run st1 = some (v, st') := by
  induction p with
  | ret a => intro st st' v h; exact ⟨a, st, rfl, h⟩
  | fail => intro st st' v h; simp [Pg.bind, Pg.run] at h
  | getR id k ih =>
    intro st st' v h
    simp only [Pg.bind, Pg.run] at h
    cases hf : find st.rows id with
    | none => rw [hf] at h; simp at h
    | some r =>
      rw [hf] at h
      obtain ⟨a, st1, h1, h2⟩ := ih r h
      exact ⟨a, st1, by simp [Pg.run, hf, h1], h2⟩
  | setR id r k ih =>
    intro st st' v h
    simp only [Pg.bind, Pg.run] at h
    obtain ⟨a, st1, h1, h2⟩ := ih h
    exact ⟨a, st1, by simp [Pg.run, h1], h2⟩
  | new r k ih =>
    intro st st' v h
    simp only [Pg.bind, Pg.run] at h
    obtain ⟨a, st1, h1, h2⟩ := ih _ h
    exact ⟨a, st1, by simp [Pg.run, h1], h2⟩

theorem load_addr {n : Nat} {g : Bool} {p v : V} {u : Value} (r : RepV w.heap F G p u) (h : (loadP n g p).run st = some (v, st')) : ∃ a, u = .pointer (some a) := by
  cases p with
  | d x =>
    cases x with
    | rop xs i off =>
      have r := r.inv_d
      cases r
      exact ⟨_, rfl⟩
    | _ => simp [loadP, Pg.run] at h
  | ptr id e i off =>
    obtain ⟨gb, _, rfl⟩ := lookGhost r
    exact ⟨_, rfl⟩
  | _ => simp [loadP, Pg.run] at h

theorem readRes_snd (hi : Inv P w F G st.rows st.next) : ∀ {l : List ResultVar} {rs : List (V × Option (Nat × Bool))} {vs : List V} {st' : St}, RsR P w.heap F G t l rs → (readRes rs).run st = some (vs, st') →
    st' = st ∧ ∃ us, (l.mapM (readOne t)).run P w = .ok us w ∧ Reps w.heap F G vs us.toArray := by
  intro l rs vs st' r
  induction r generalizing vs st' with
  | nil =>
    intro h
    simp only [readRes, Pg.run, Option.some.injEq, Prod.mk.injEq] at h
    obtain ⟨rfl, rfl⟩ := h
    exact ⟨rfl, [], by simp, Reps.nil⟩
  | tmp i v l l' r rl ih =>
    intro h
    simp only [readRes] at h
    obtain ⟨a, st1, h1, h2⟩ := bind_run h
    obtain ⟨rfl, us, q1, q2⟩ := ih h1
    simp only [Pg.run, Option.some.injEq, Prod.mk.injEq] at h2
    obtain ⟨rfl, rfl⟩ := h2
    refine ⟨rfl, t.getD i undef :: us, ?_, Reps.cons r q2⟩
    simp [List.mapM_cons, readOne, q1]
  | cell i ty n b v l l' r hn hb hb1 rl ih =>
    intro h
    simp only [readRes] at h
    obtain ⟨x, st1, h1, h2⟩ := bind_run h
    obtain ⟨ad, hu⟩ := load_addr r h1
    obtain ⟨rfl, u, e1, e2⟩ := load_snd hi hn hb hb1 rfl r h1
    obtain ⟨a, st2, h3, h4⟩ := bind_run h2
    obtain ⟨rfl, us, q1, q2⟩ := ih h3
    simp only [Pg.run, Option.some.injEq, Prod.mk.injEq] at h4
    obtain ⟨rfl, rfl⟩ := h4
    refine ⟨rfl, u :: us, ?_, Reps.cons e2 q2⟩
    have : (readOne t (.cell i ty)).run P w = .ok u w := by
      rw [hu] at e1
      simp only [readOne, hu, asAddr]
      simpa [Instr.loadAt, Instr.sureAddr] using e1
    rw [List.mapM_cons, Sem.run_bind, this]
    simp [q1]

/-- One result, or more. -/
def oneV : List Value → Value
  | [u] => u
  | us => .tuple us.toArray

theorem results_eq (fn : Func) : results fn t = (do let vs ← fn.results.mapM (readOne t); pure (if h : vs.size = 1 then vs[0] else .tuple vs)) := by
  unfold results
  have hfun : (fun (x : ResultVar) => match x with
    | .tmp i => (pure (t.getD i undef) : Sem Value)
    | .cell i ty => do loadVar ty (← asAddr (t.getD i undef))) = readOne t := by
    funext x; cases x <;> rfl
  rw [← hfun]
  rfl

theorem results_run {fn : Func} {us : List Value} (h : (fn.results.toList.mapM (readOne t)).run P w = .ok us w) : (results fn t).run P w = .ok (oneV us) w := by
  rw [results_eq, Array.mapM_eq_mapM_toList]
  have e : (List.toArray <$> List.mapM (readOne t) fn.results.toList).run P w = .ok us.toArray w := by
    have : (List.toArray <$> List.mapM (readOne t) fn.results.toList : Sem (Array Value)) = (do let l ← List.mapM (readOne t) fn.results.toList; pure l.toArray) := rfl
    rw [this, Sem.run_bind, h]
    simp
  rw [Sem.run_bind, e]
  simp only [Result.andThen_ok, Sem.run_pure]
  match us with
  | [] => simp [oneV]
  | [u] => simp [oneV]
  | u :: v :: us => simp [oneV]

theorem oneOrTup_rep {h : Array Obj} {vs : List V} {us : List Value} (r : Reps h F G vs us.toArray) : RepV h F G (oneOrTup vs) (oneV us) := by
  have hl : us.length = vs.length := by simpa using r.1
  match vs, us, hl with
  | [], [], _ => exact .tup [] #[] rfl (fun i v u h => by simp at h)
  | [v], [u], _ => exact r.2 0 v u rfl rfl
  | v :: v' :: vs, u :: u' :: us, _ => exact .tup _ _ r.1 r.2

theorem tell_snd (hi : Inv P w F G st.rows st.next) {fn : Func} {rs : List (V × Option (Nat × Bool))} (r : RsR P w.heap F G t fn.results.toList rs) {keep : Bool} {res : Res} (h : tell keep rs st = some (res, st')) :
    ∃ u v F', res = .ret v ∧ (results fn t).run P w = .ok u w ∧ Chain P w F G (owns st.rows G) w F' G st' ∧ RepV w.heap F' G v u ∧ st'.dfr = st.dfr ∧ st'.rc = st.rc := by
  unfold tell at h
  cases hr : (readRes rs).run st with
  | none => rw [hr] at h; simp at h
  | some q =>
    obtain ⟨vs, st1⟩ := q
    rw [hr] at h
    simp only at h
    obtain ⟨rfl, us, q1, q2⟩ := readRes_snd hi r hr
    have hrun := results_run q1
    have hrep := oneOrTup_rep q2
    cases keep with
    | true =>
      simp only [cond_true, Option.some.injEq, Prod.mk.injEq] at h
      obtain ⟨rfl, rfl⟩ := h
      exact ⟨_, _, F, rfl, hrun, Chain.refl hi, hrep, rfl, rfl⟩
    | false =>
      simp only [cond_false] at h
      cases hf : (freezeP 5 (oneOrTup vs)).run st1 with
      | none => rw [hf] at h; simp at h
      | some q =>
        obtain ⟨v, st2⟩ := q
        rw [hf] at h
        simp only [Option.some.injEq, Prod.mk.injEq] at h
        obtain ⟨rfl, rfl⟩ := h
        obtain ⟨F', fz, rv, _⟩ := freeze_snd 5 F st1 st2 _ v _ hi hrep hf
        exact ⟨_, v, F', rfl, hrun, fz.chain hi, rv, fz.dfr, fz.rc⟩

end
end Go.AM
namespace Go.AM
open Go

/-! # The abstract machine tells what the machine does -/

/-- The mode of a frame whose deferred calls run. -/
def RcMode (h : Array Obj) (F : Nat → Prop) (G : Gh) : Rec → FrameMode → Prop
  | .none, _ => True
  | .idle, m => m = .returning
  | .due v, m => ∃ u, m = .panicking [{ v := u, recovered := false }] ∧ RepV h F G v u
  | .done v, m => ∃ u, m = .panicking [{ v := u, recovered := true }] ∧ RepV h F G v u

/-- How a deferred call ends. -/
def CallRD (P : Program) (w : World) (F : Nat → Prop) (G : Gh) (st : St) (r : Res) (st' : St) (e : Ending) (u' : FrameMode) (w' : World) : Prop :=
  ∃ F' G', Chain P w F G (owns st.rows G) w' F' G' st' ∧ RcMode w'.heap F' G' st'.rc u' ∧ match e with
    | .returned u => ∃ v, r = .ret v ∧ RepV w'.heap F' G' v u
    | .panicked ch => ∃ v u, r = .pan v ∧ ch = [{ v := u, recovered := false }] ∧ RepV w'.heap F' G' v u
    | .outgrown => False

def isNone : Rec → Bool
  | .none => true
  | _ => false

/-- What the environment tells of deferred calls is so. -/
def EnvOkD (P : Program) (gl : List (Nat × D)) (E : Env) : Prop :=
  ∀ (f : FuncId) (args : List V) (st : St) (r : Res) (st' : St) (w : World) (F : Nat → Prop) (G : Gh) (args' : Array Value) (m : FrameMode), E f args st = some (r, st') → isNone st.rc = false → RcMode w.heap F G st.rc m → st.dfr = [] →
    Inv P w F G st.rows st.next → GlobR w.heap F gl → Reps w.heap F G args args' → (callFunc f args').run P w = .ok (.enter f args') w ∧ CallsD P f args' m w (CallRD P w F G st r st')

section
variable {P : Program} {gl : List (Nat × D)} {E : Env}

/-- The mode that a way of leaving is. -/
def MdR (h : Array Obj) (F : Nat → Prop) (G : Gh) : Md → FrameMode → Prop
  | .ret, m => m = .returning
  | .pan v, m => ∃ u, m = .panicking [{ v := u, recovered := false }] ∧ RepV h F G v u

theorem leaveD_snd (hD : EnvOkD P gl E) {w0 : World} {F0 : Nat → Prop} {G0 : Gh} {st0 : St} {fn : Func} {t : Array Value} {keep : Bool} {rs : List (V × Option (Nat × Bool))} {r : Res} {st' : St} :
    ∀ (n : Nat) (md : Md) (m : FrameMode) (st : St) (w : World) (F : Nat → Prop) (G : Gh) (ds : List Deferred), leaveD E keep rs n md st = some (r, st') → Chain P w0 F0 G0 (owns st0.rows G0) w F G st → MdR w.heap F G md m →
      DfrR w.heap F G st.dfr ds → RsR P w.heap F G t fn.results.toList rs → st.rc = .none → GlobR w.heap F gl → Leaves P fn t (CallR P w0 F0 G0 st0 r st') ds m w
  | 0, md, m, st, w, F, G, ds, h, _, _, _, _, _, _ => by simp [leaveD] at h
  | n + 1, md, m, st, w, F, G, ds, h, hc, hmd, hds, hrs, hrc, hgb => by
    simp only [leaveD] at h
    cases hd : st.dfr with
    | nil =>
      rw [hd] at h hds
      cases hds
      cases md with
      | ret =>
        cases hmd
        simp only at h
        obtain ⟨u, v, F', rfl, h1, h2, h3, _, _⟩ := tell_snd hc.inv hrs h
        exact ⟨u, h1, F', G, v, rfl, hc.trans h2, h3⟩
      | pan v =>
        obtain ⟨u, rfl, ru⟩ := hmd
        simp only [Option.some.injEq, Prod.mk.injEq] at h
        obtain ⟨rfl, rfl⟩ := h
        exact ⟨F, G, v, u, rfl, rfl, hc, ru⟩
    | cons d l =>
      rw [hd] at h hds
      cases hds with
      | cons f args cap args' _ l' ra rl =>
        simp only at h
        -- the deferred call
        have call : ∀ (rc : Rec) (r1 : Res) (st1 : St), E f args { next := st.next, rows := st.rows, dfr := [], rc := rc } = some (r1, st1) → isNone rc = false → RcMode w.heap F G rc m →
            (callFunc f (args' ++ cap)).run P w = .ok (.enter f (args' ++ cap)) w ∧ CallsD P f (args' ++ cap) m w (CallRD P w F G { next := st.next, rows := st.rows, dfr := [], rc := rc } r1 st1) :=
          fun rc r1 st1 h1 h2 h3 => hD f args _ r1 st1 w F G _ m h1 h2 h3 rfl hc.inv hgb ra
        have hne : m ≠ .run := by
          cases md with
          | ret => cases hmd; simp
          | pan v => obtain ⟨u, rfl, _⟩ := hmd; simp
        -- what follows it
        have go : ∀ (rc : Rec) (r1 : Res) (st1 : St), E f args { next := st.next, rows := st.rows, dfr := [], rc := rc } = some (r1, st1) → isNone rc = false → RcMode w.heap F G rc m →
            (∀ e u' w', CallRD P w F G { next := st.next, rows := st.rows, dfr := [], rc := rc } r1 st1 e u' w' → match e with
              | .returned _ => Leaves P fn t (CallR P w0 F0 G0 st0 r st') l' (settle u') w'
              | .panicked chain => Leaves P fn t (CallR P w0 F0 G0 st0 r st') l' (raised u' chain) w'
              | .outgrown => CallR P w0 F0 G0 st0 r st' .outgrown w') → Leaves P fn t (CallR P w0 F0 G0 st0 r st') ({ target := .fn (.func f) cap, args := args' } :: l') m w := by
          intro rc r1 st1 h1 h2 h3 h4
          obtain ⟨q1, q2⟩ := call rc r1 st1 h1 h2 h3
          refine ⟨hne, .func f, cap, f, args' ++ cap, rfl, by simpa [invoke] using q1, q2.mono ?_⟩
          intro e u' w' he
          have := h4 e u' w' he
          cases e <;> exact this
        -- the rest
        have rest : ∀ (rc : Rec) (st1 : St) (w' : World) (F' : Nat → Prop) (G' : Gh) (md' : Md) (m' : FrameMode), Chain P w F G (owns st.rows G) w' F' G' st1 → MdR w'.heap F' G' md' m' →
            leaveD E keep rs n md' { next := st1.next, rows := st1.rows, dfr := l, rc := st.rc } = some (r, st') → Leaves P fn t (CallR P w0 F0 G0 st0 r st') l' m' w' := by
          intro rc st1 w' F' G' md' m' c1 hm' hl
          have hk := c1.keeps hc.inv
          exact leaveD_snd hD n md' m' _ w' F' G' l' hl ((hc.trans c1).withD _ _) hm' (rl.mono hk) (hrs.mono hk) hrc (hgb.mono hk)
        cases md with
        | ret =>
          cases hmd
          simp only at h
          split at h
          · rename_i v st1 hcall
            refine go .idle _ st1 hcall rfl rfl ?_
            rintro e u' w' ⟨F', G', c1, hmode, he⟩
            cases e with
            | returned u =>
              cases hr1 : st1.rc with
              | idle =>
                rw [hr1] at h hmode
                simp only at h
                cases hmode
                exact rest .idle st1 w' F' G' .ret _ c1 rfl h
              | none => rw [hr1] at h; simp at h
              | due => rw [hr1] at h; simp at h
              | done => rw [hr1] at h; simp at h
            | panicked ch => obtain ⟨_, _, hh, _⟩ := he; simp at hh
            | outgrown => exact he.elim
          · simp at h
        | pan v =>
          have hmd' := hmd
          obtain ⟨u, rfl, ru⟩ := hmd
          simp only at h
          split at h
          · rename_i v1 st1 hcall
            refine go (.due v) _ st1 hcall rfl ⟨u, rfl, ru⟩ ?_
            rintro e u' w' ⟨F', G', c1, hmode, he⟩
            cases e with
            | returned uu =>
              cases hr1 : st1.rc with
              | idle => rw [hr1] at h; simp at h
              | none => rw [hr1] at h; simp at h
              | due v2 =>
                rw [hr1] at h hmode
                simp only at h
                obtain ⟨u2, rfl, ru2⟩ := hmode
                exact rest (.due v) st1 w' F' G' (.pan v2) _ c1 ⟨u2, rfl, ru2⟩ h
              | done v2 =>
                rw [hr1] at h hmode
                simp only at h
                obtain ⟨u2, rfl, ru2⟩ := hmode
                exact rest (.due v) st1 w' F' G' .ret _ c1 rfl h
            | panicked ch => obtain ⟨_, _, hh, _⟩ := he; simp at hh
            | outgrown => exact he.elim
          · simp at h

end
end Go.AM
namespace Go.AM
open Go

/-- A function's made-ready text is that of the program. -/
structure FnOk (P : Program) (gl : List (Nat × D)) (f : FuncId) (fn : CFn) (fc : Func) (hn : Hint) (c : Code) : Prop where
  func : P.funcs[f]? = some fc
  body : fc.body = some c
  comp : compile P hn fc = some fn
  ok : okCode P hn (if fn.defers then resSlots fn.results else []) c = true
  name : (fc.name == "runtime.NumGoroutine") = false
  gls : hn.gl = gl

structure CfgOk (P : Program) (gl : List (Nat × D)) (C : Cfg) : Prop where
  mixed : P.follows .mixedOrders = true
  fn : ∀ f fn, C.fn f = some fn → ∃ func hn c, FnOk P gl f fn func hn c
  sp : SpOk P gl C

section
variable {P : Program} {gl : List (Nat × D)} {C : Cfg} {E : Env}

theorem compile_inv {hn : Hint} {func : Func} {fn : CFn} {c : Code} (hb : func.body = some c) (h : compile P hn func = some fn) :
    ∃ r, cResults P func.results.toList = some r ∧ fn = ⟨func.ntmps, r, hn.keepRet, hasDefer c, cCode P hn c⟩ := by
  unfold compile at h
  rw [hb] at h
  cases hr : cResults P func.results.toList with
  | none => rw [hr] at h; simp at h
  | some r => rw [hr] at h; simp only [Option.some.injEq] at h; exact ⟨r, rfl, h.symm⟩

theorem start_rep {h : Array Obj} {F : Nat → Prop} {G : Gh} {args : List V} {args' : Array Value} (ra : Reps h F G args args') (n : Nat) :
    Reps h F G (args ++ List.replicate (n - args.length) (.tup [])) (args' ++ Array.replicate (n - args'.size) undef) := by
  refine ra.append ⟨by simp [ra.1], ?_⟩
  intro i v u h1 h2
  rw [List.getElem?_replicate] at h1
  rw [Array.getElem?_replicate] at h2
  split at h1
  · split at h2
    · simp at h1 h2; subst h1; subst h2; exact undef_rep
    · simp at h2
  · simp at h1

theorem callFunc_enter {f : FuncId} {func : Func} {c : Code} (hf : P.funcs[f]? = some func) (hb : func.body = some c) (hname : (func.name == "runtime.NumGoroutine") = false) (args : Array Value) (w : World) :
    (callFunc f args).run P w = .ok (.enter f args) w := by
  unfold callFunc
  have : ¬ func.name = "runtime.NumGoroutine" := by simpa using hname
  simp [hf, hb, this]

theorem leaveR_snd (hD : EnvOkD P gl E) {w0 : World} {F0 : Nat → Prop} {G0 : Gh} {st0 : St} {func : Func} {fn : CFn} (hcr : cResults P func.results.toList = some fn.results) {r : Res} {st' : St} {s : List V} {st : St} {a : Act} {w : World} {F : Nat → Prop} {G : Gh}
    (h : leaveR E fn s st = some (r, st')) (hc : Chain P w0 F0 G0 (owns st0.rows G0) w F G st) (hs : Reps w.heap F G s a.tmps) (hd : DfrR w.heap F G st.dfr a.defers) (hgb : GlobR w.heap F gl) :
    Leaves P func a.tmps (CallR P w0 F0 G0 st0 r st') a.defers .returning w := by
  unfold leaveR at h
  cases hr : resultsV s fn.results with
  | none => rw [hr] at h; simp at h
  | some rs =>
    rw [hr] at h
    have hrs := rs_of hs hcr hr
    cases hdf : fn.defers with
    | true =>
      rw [hdf] at h
      simp only [cond_true, leaveDn] at h
      split at h
      · rename_i hrc
        exact leaveD_snd hD 8 .ret .returning st w F G a.defers h hc rfl hd hrs hrc hgb
      · simp at h
    | false =>
      rw [hdf] at h
      simp only [cond_false, tell0] at h
      split at h
      · rename_i hnil
        rw [hnil] at hd
        cases hdd : a.defers with
        | nil =>
          obtain ⟨u, v, F', rfl, h1, h2, h3, _, _⟩ := tell_snd hc.inv hrs h
          exact ⟨u, h1, F', G, v, rfl, hc.trans h2, h3⟩
        | cons => rw [hdd] at hd; cases hd
      · simp at h

theorem leaveP_snd (hD : EnvOkD P gl E) {w0 : World} {F0 : Nat → Prop} {G0 : Gh} {st0 : St} {func : Func} {fn : CFn} (hcr : cResults P func.results.toList = some fn.results) {r : Res} {st' : St} {s : List V} {st : St} {a : Act} {w : World} {F : Nat → Prop} {G : Gh} {v : V} {u : Value}
    (h : leaveP E fn v s st = some (r, st')) (hc : Chain P w0 F0 G0 (owns st0.rows G0) w F G st) (hs : Reps w.heap F G s a.tmps) (hd : DfrR w.heap F G st.dfr a.defers) (hgb : GlobR w.heap F gl) (ru : RepV w.heap F G v u) :
    Leaves P func a.tmps (CallR P w0 F0 G0 st0 r st') a.defers (.panicking [{ v := u, recovered := false }]) w := by
  unfold leaveP at h
  cases hdf : fn.defers with
  | true =>
    rw [hdf] at h
    simp only [cond_true] at h
    cases hr : resultsV s fn.results with
    | none => rw [hr] at h; simp at h
    | some rs =>
      rw [hr] at h
      have hrs := rs_of hs hcr hr
      simp only [leaveDn] at h
      split at h
      · rename_i hrc
        exact leaveD_snd hD 8 (.pan v) _ st w F G a.defers h hc ⟨u, rfl, ru⟩ hd hrs hrc hgb
      · simp at h
  | false =>
    rw [hdf] at h
    simp only [cond_false, pan0] at h
    split at h
    · rename_i hnil
      rw [hnil] at hd
      simp only [Option.some.injEq, Prod.mk.injEq] at h
      obtain ⟨rfl, rfl⟩ := h
      cases hdd : a.defers with
      | nil => exact ⟨F, G, v, u, rfl, rfl, hc, ru⟩
      | cons => rw [hdd] at hd; cases hd
    · simp at h

/-- A function's run. -/
theorem enter_snd (hC : CfgOk P gl C) (hE : EnvOk P gl E) (hD : EnvOkD P gl E) (n : Nat) {f : FuncId} {fn : CFn} (hfn : C.fn f = some fn) {args : List V} {st : St} {r : Res} {st' : St} {w : World} {F : Nat → Prop} {G : Gh} {args' : Array Value}
    (h : runA C E fn n [.code fn.code] (args ++ List.replicate (fn.ntmps - args.length) (.tup [])) st = some (r, st')) (hdfr : st.dfr = []) (hi : Inv P w F G st.rows st.next) (hgb : GlobR w.heap F gl) (ra : Reps w.heap F G args args') :
    (callFunc f args').run P w = .ok (.enter f args') w ∧ (st.rc = .none → Calls P f args' w (CallR P w F G st r st')) ∧
    (∀ m, isNone st.rc = false → RcMode w.heap F G st.rc m → CallsD P f args' m w (CallRD P w F G st r st')) := by
  obtain ⟨func, hn, c, ok⟩ := hC.fn f fn hfn
  obtain ⟨rv, hcr, hfe⟩ := compile_inv ok.body ok.comp
  have hntm : fn.ntmps = func.ntmps := by rw [hfe]
  have hcode : fn.code = cCode P hn c := by rw [hfe]
  have hres : cResults P func.results.toList = some fn.results := by rw [hcr, hfe]
  have hstart := start_rep ra fn.ntmps
  rw [hntm] at hstart
  rw [hcode, hntm] at h
  have htodo : Todo P hn (if fn.defers then resSlots fn.results else []) [.code (cCode P hn c)] [.code c] := .code c ok.ok [] [] .nil
  refine ⟨callFunc_enter ok.func ok.body ok.name args' w, ?_, ?_⟩
  · intro hrc
    refine calls_of_wp_defers ok.func ok.body ?_
    intro b k cs
    have x : SR P ⟨w, F, G, owns st.rows G, default, [], cs, true, gl⟩ F G (args ++ List.replicate (func.ntmps - args.length) (.tup [])) st { tmps := args' ++ Array.replicate (func.ntmps - args'.size) undef, defers := [] } cs w := by
      refine ⟨Chain.refl hi, hstart, ?_, ?_, hgb⟩
      · rw [hdfr]; exact .nil
      · rw [hrc]; exact .none rfl
    obtain ⟨e, a', cs', w', hq, harr⟩ := walk (C := C) hE hC.sp ok.gls hC.mixed rfl (rec := false) (b := b) (fun hh => by simp at hh) k n _ _ _ _ _ _ _ F G h htodo x (.inr hrc)
    have hcs : ∀ {s1 st1 F1 G1}, SR P ⟨w, F, G, owns st.rows G, default, [], cs, true, gl⟩ F1 G1 s1 st1 a' cs' w' → st1.rc = .none → cs' = cs := by
      intro s1 st1 F1 G1 x1 hr1
      have := x1.rc
      rw [hr1] at this
      cases this
      rfl
    cases e with
    | normal =>
      obtain ⟨s1, st1, F1, G1, hl, x1, hr1⟩ := hq
      have hr1 := hr1.resolve_left (by simp)
      have := hcs x1 hr1
      subst this
      exact ⟨.normal, a', w', leaveR_snd hD hres hl x1.ch x1.sl x1.df x1.gb, harr⟩
    | ret =>
      obtain ⟨s1, st1, F1, G1, hl, x1, hr1⟩ := hq
      have hr1 := hr1.resolve_left (by simp)
      have := hcs x1 hr1
      subst this
      exact ⟨.ret, a', w', leaveR_snd hD hres hl x1.ch x1.sl x1.df x1.gb, harr⟩
    | panic ch =>
      obtain ⟨v, u, s1, st1, F1, G1, hl, rfl, x1, hr1, ru⟩ := hq
      have hr1 := hr1.resolve_left (by simp)
      have := hcs x1 hr1
      subst this
      exact ⟨.panic _, a', w', leaveP_snd hD hres hl x1.ch x1.sl x1.df x1.gb ru, harr⟩
    | exit => exact hq.elim
    | goto => exact hq.elim
    | outgrown => exact hq.elim
  · intro m hnn hm
    refine callsD_of_wpS ok.func ok.body ?_
    intro c₀ cs hmode b k hbk hro
    have hc0 : ({ c₀ with mode := m } : Frame) = c₀ := by subst hmode; rfl
    have x : SR P ⟨w, F, G, owns st.rows G, c₀, cs, [], false, gl⟩ F G (args ++ List.replicate (func.ntmps - args.length) (.tup [])) st { tmps := args' ++ Array.replicate (func.ntmps - args'.size) undef, defers := [] } (c₀ :: cs) w := by
      refine ⟨Chain.refl hi, hstart, ?_, ?_, hgb⟩
      · rw [hdfr]; exact .nil
      · cases hrc : st.rc with
        | none => rw [hrc] at hnn; simp [isNone] at hnn
        | idle =>
          rw [hrc] at hm
          have hm : m = .returning := hm
          subst hm
          rw [← hc0]; exact .idle
        | due v =>
          rw [hrc] at hm
          obtain ⟨u, rfl, ru⟩ := hm
          rw [← hc0]; exact .due v u ru
        | done v =>
          rw [hrc] at hm
          obtain ⟨u, rfl, ru⟩ := hm
          rw [← hc0]; exact .done v u ru
    obtain ⟨e, a', cs', w', hq, harr⟩ := walk (C := C) hE hC.sp ok.gls hC.mixed rfl (rec := true) (b := b) (fun _ => ⟨hbk, hro⟩) k n _ _ _ _ _ _ _ F G h htodo x (.inl rfl)
    -- the frame behind
    have hcs : ∀ {s1 st1 F1 G1}, SR P ⟨w, F, G, owns st.rows G, c₀, cs, [], false, gl⟩ F1 G1 s1 st1 a' cs' w' → isNone st1.rc = false ∧ ∃ u', cs' = { c₀ with mode := u' } :: cs ∧ RcMode w'.heap F1 G1 st1.rc u' := by
      intro s1 st1 F1 G1 x1
      have := x1.rc
      cases hrc : st1.rc with
      | none => rw [hrc] at this; cases this with | none hh => simp at hh
      | idle => rw [hrc] at this; cases this; exact ⟨rfl, _, rfl, rfl⟩
      | due v => rw [hrc] at this; cases this with | due _ u ru => exact ⟨rfl, _, rfl, u, rfl, ru⟩
      | done v => rw [hrc] at this; cases this with | done _ u ru => exact ⟨rfl, _, rfl, u, rfl, ru⟩
    -- leaving it
    have lv : ∀ {s1 st1 F1 G1}, SR P ⟨w, F, G, owns st.rows G, c₀, cs, [], false, gl⟩ F1 G1 s1 st1 a' cs' w' → leaveR E fn s1 st1 = some (r, st') →
        a'.defers = [] ∧ ∃ u', cs' = { c₀ with mode := u' } :: cs ∧ ∃ v, (results func a'.tmps).run P w' = .ok v w' ∧ CallRD P w F G st r st' (.returned v) u' w' := by
      intro s1 st1 F1 G1 x1 hl
      obtain ⟨hnn1, u', hcs', hmode'⟩ := hcs x1
      unfold leaveR at hl
      cases hr : resultsV s1 fn.results with
      | none => rw [hr] at hl; simp at hl
      | some rs =>
        rw [hr] at hl
        have hrs := rs_of x1.sl hres hr
        cases hdf : fn.defers with
        | true =>
          rw [hdf] at hl
          simp only [cond_true, leaveDn] at hl
          split at hl
          · rename_i hh; rw [hh] at hnn1; simp [isNone] at hnn1
          · simp at hl
        | false =>
          rw [hdf] at hl
          simp only [cond_false, tell0] at hl
          split at hl
          · rename_i hnil
            have hd := x1.df
            rw [hnil] at hd
            cases hdd : a'.defers with
            | nil =>
              obtain ⟨u, v, F', rfl, h1, h2, h3, h4, h5⟩ := tell_snd x1.ch.inv hrs hl
              refine ⟨rfl, u', hcs', u, h1, F', G1, x1.ch.trans h2, ?_, v, rfl, h3⟩
              have hk := h2.keeps x1.ch.inv
              rw [h5]
              cases hrc : st1.rc with
              | none => rw [hrc] at hnn1; simp [isNone] at hnn1
              | idle => rw [hrc] at hmode'; exact hmode'
              | due v => rw [hrc] at hmode'; obtain ⟨q, q1, q2⟩ := hmode'; exact ⟨q, q1, q2.mono hk⟩
              | done v => rw [hrc] at hmode'; obtain ⟨q, q1, q2⟩ := hmode'; exact ⟨q, q1, q2.mono hk⟩
            | cons => rw [hdd] at hd; cases hd
          · simp at hl
    cases e with
    | normal =>
      obtain ⟨s1, st1, F1, G1, hl, x1, _⟩ := hq
      exact ⟨.normal, a', cs', w', lv x1 hl, harr⟩
    | ret =>
      obtain ⟨s1, st1, F1, G1, hl, x1, _⟩ := hq
      exact ⟨.ret, a', cs', w', lv x1 hl, harr⟩
    | panic ch =>
      obtain ⟨v, u, s1, st1, F1, G1, hl, rfl, x1, _, ru⟩ := hq
      obtain ⟨hnn1, u', hcs', hmode'⟩ := hcs x1
      refine ⟨.panic _, a', cs', w', ?_, harr⟩
      unfold leaveP at hl
      cases hdf : fn.defers with
      | true =>
        rw [hdf] at hl
        simp only [cond_true] at hl
        split at hl
        · simp only [leaveDn] at hl
          split at hl
          · rename_i hh; rw [hh] at hnn1; simp [isNone] at hnn1
          · simp at hl
        · simp at hl
      | false =>
        rw [hdf] at hl
        simp only [cond_false, pan0] at hl
        split at hl
        · rename_i hnil
          have hd := x1.df
          rw [hnil] at hd
          simp only [Option.some.injEq, Prod.mk.injEq] at hl
          obtain ⟨rfl, rfl⟩ := hl
          cases hdd : a'.defers with
          | nil => exact ⟨hdd, u', hcs', F1, G1, x1.ch, hmode', v, u, rfl, rfl, ru⟩
          | cons => rw [hdd] at hd; cases hd
        · simp at hl
    | exit => exact hq.elim
    | goto => exact hq.elim
    | outgrown => exact hq.elim

/-- What the abstract machine tells of calls is so. -/
theorem env_ok (hC : CfgOk P gl C) : ∀ n, EnvOk P gl (evalF C n) ∧ EnvOkD P gl (evalF C n)
  | 0 => by
    constructor
    · intro f args st r st' w F G args' h; simp [evalF] at h
    · intro f args st r st' w F G args' m h; simp [evalF] at h
  | n + 1 => by
    obtain ⟨hE, hD⟩ := env_ok hC n
    have un : evalF C (n + 1) = enterF C (evalF C n) n := rfl
    -- a function's text
    have txt : ∀ {f : FuncId} {args : List V} {st : St} {r : Res} {st' : St}, enterF C (evalF C n) n f args st = some (r, st') →
        ∃ fn, C.fn f = some fn ∧ runA C (evalF C n) fn n [.code fn.code] (args ++ List.replicate (fn.ntmps - args.length) (.tup [])) st = some (r, st') := by
      intro f args st r st' h
      unfold enterF at h
      cases hf : C.fn f with
      | none => rw [hf] at h; simp at h
      | some fn =>
        rw [hf] at h
        simp only at h
        cases hb : Nat.ble args.length fn.ntmps with
        | false => rw [hb] at h; simp at h
        | true => rw [hb] at h; exact ⟨fn, rfl, h⟩
    constructor
    · intro f args st r st' w F G args' h hrc hd hi hg ra
      rw [un] at h
      obtain ⟨fn, hf, hrun⟩ := txt h
      obtain ⟨q1, q2, _⟩ := enter_snd hC hE hD n hf hrun hd hi hg ra
      exact .inl ⟨q1, q2 hrc⟩
    · intro f args st r st' w F G args' m h hnn hm hd hi hg ra
      rw [un] at h
      obtain ⟨fn, hf, hrun⟩ := txt h
      obtain ⟨q1, _, q3⟩ := enter_snd hC hE hD n hf hrun hd hi hg ra
      exact ⟨q1, q3 m hnn hm⟩

end
end Go.AM
namespace Go.AM
open Go

/-! # The limit: calls and runs with as many steps as they need -/
def Evl {α : Type} (x : Nat → Option α) (a : α) : Prop := ∃ n, ∀ m, n ≤ m → x m = some a

theorem Evl.of {α : Type} {x : Nat → Option α} {a : α} (h : ∀ m, x m = some a) : Evl x a := ⟨0, fun m _ => h m⟩

theorem Evl.bind {α β : Type} {x : Nat → Option α} {y : Nat → Option β} {a : α} {b : β} (hx : Evl x a) (hy : Evl y b) {z : Nat → Option β} (h : ∀ m, x m = some a → z m = y m) : Evl z b := by
  obtain ⟨n, hn⟩ := hx
  obtain ⟨k, hk⟩ := hy
  exact ⟨max n k, fun m hm => by rw [h m (hn m (by omega)), hk m (by omega)]⟩

theorem Evl.congr {α : Type} {x y : Nat → Option α} {a : α} (hx : Evl x a) (h : ∀ m, y m = x m) : Evl y a := by
  obtain ⟨n, hn⟩ := hx
  exact ⟨n, fun m hm => by rw [h, hn m hm]⟩

section
variable {C : Cfg} {EI : Env} {E : Nat → Env} {α : Type}

/-- An environment that others come to. -/
def EnvEv (EI : Env) (E : Nat → Env) : Prop := ∀ f args st o, EI f args st = some o → Evl (fun n => E n f args st) o

theorem pureCall_ev (hE : EnvEv EI E) {f : FuncId} {args : List V} {r : Res} (h : pureCall EI f args = some r) : Evl (fun n => pureCall (E n) f args) r := by
  unfold pureCall at h
  cases ha : allD args with
  | none => rw [ha] at h; simp at h
  | some ds =>
    rw [ha] at h
    simp only at h
    cases hc : EI f args st0 with
    | none => rw [hc] at h; simp at h
    | some o =>
      refine Evl.bind (hE _ _ _ _ hc) (Evl.of (x := fun _ => some r) (fun _ => rfl)) ?_
      intro m hm
      unfold pureCall
      rw [ha]
      simp only [hm]
      rw [hc] at h
      exact h

theorem pcallF_ev (hE : EnvEv EI E) {f : FuncId} {args : List V} {st : St} {o : Out} (h : pcallF EI f args st = some o) : Evl (fun n => pcallF (E n) f args st) o := by
  unfold pcallF at h
  cases hc : pureCall EI f args with
  | none => rw [hc] at h; simp at h
  | some r =>
    refine Evl.bind (pureCall_ev hE hc) (Evl.of (x := fun _ => some o) (fun _ => rfl)) ?_
    intro m hm
    unfold pcallF
    rw [hm]
    rw [hc] at h
    exact h

theorem sharedCall_ev (hE : EnvEv EI E) {f : FuncId} {args : List V} {st : St} {o : Out} (h : sharedCall C EI f args st = some o) : Evl (fun n => sharedCall C (E n) f args st) o := by
  unfold sharedCall at h
  cases hc : EI f args { st with dfr := [], rc := .none } with
  | none => rw [hc] at h; simp at h
  | some r =>
    refine Evl.bind (hE _ _ _ _ hc) (Evl.of (x := fun _ => some o) (fun _ => rfl)) ?_
    intro m hm
    unfold sharedCall
    rw [hm]
    rw [hc] at h
    exact h

theorem callF0_ev (hE : EnvEv EI E) {fv : V} {args : List V} {st : St} {o : Out} (h : callF0 C EI fv args st = some o) : Evl (fun n => callF0 C (E n) fv args st) o := by
  unfold callF0 at h
  cases hf : fnOf fv with
  | none => rw [hf] at h; simp at h
  | some q =>
    obtain ⟨f, a, b⟩ := q
    rw [hf] at h
    simp only at h
    cases hk : C.keepArgs f with
    | true =>
      rw [hk] at h
      refine (sharedCall_ev (C := C) hE h).congr (fun m => ?_)
      unfold callF0
      rw [hf]
      simp only [hk, cond_true]
    | false =>
      rw [hk] at h
      simp only [cond_false] at h
      cases he : (eachP (freezeP 4) args).run st with
      | none => rw [he] at h; simp at h
      | some q =>
        obtain ⟨args', st'⟩ := q
        rw [he] at h
        simp only at h
        cases hp : C.isPure f with
        | true =>
          rw [hp] at h
          simp only [cond_true] at h
          cases hc : pureCall EI f (a ++ args' ++ b) with
          | none => rw [hc] at h; simp at h
          | some r =>
            refine Evl.bind (pureCall_ev hE hc) (Evl.of (x := fun _ => some o) (fun _ => rfl)) ?_
            intro m hm
            unfold callF0
            rw [hf]
            simp only [hk, cond_false, he, hp, cond_true, hm]
            rw [hc] at h
            exact h
        | false =>
          rw [hp] at h
          simp only [cond_false] at h
          refine (sharedCall_ev (C := C) hE h).congr (fun m => ?_)
          unfold callF0
          rw [hf]
          simp only [hk, cond_false, he, hp]

theorem callF_ev (hE : EnvEv EI E) {fv : V} {args : List V} {st : St} {o : Out} (h : callF C EI fv args st = some o) : Evl (fun n => callF C (E n) fv args st) o := by
  unfold callF at h ⊢
  cases hs : spOf C fv args with
  | some p => rw [hs] at h; exact Evl.of (fun _ => h)
  | none => rw [hs] at h; exact callF0_ev hE h

theorem c1_ev {x : Option Out} {X : Nat → Option Out} (hx : ∀ o, x = some o → Evl X o) {k kp : V → St → Option α} {K KP : Nat → V → St → Option α} {out : α} (hk : ∀ v st, k v st = some out → Evl (fun n => K n v st) out)
    (hkp : ∀ v st, kp v st = some out → Evl (fun n => KP n v st) out) (h : c1 x k kp = some out) : Evl (fun n => c1 (X n) (K n) (KP n)) out := by
  cases hx1 : x with
  | none => rw [hx1] at h; simp [c1] at h
  | some o =>
    obtain ⟨r, st'⟩ := o
    rw [hx1] at h
    cases r with
    | ret v => exact Evl.bind (hx _ hx1) (hk v st' h) (fun m hm => by simp only [hm, c1])
    | pan v => exact Evl.bind (hx _ hx1) (hkp v st' h) (fun m hm => by simp only [hm, c1])

theorem opC_ev (hE : EnvEv EI E) {op : COp} {s : List V} {st : St} {k kp : V → St → Option α} {K KP : Nat → V → St → Option α} {out : α} (hk : ∀ v st, k v st = some out → Evl (fun n => K n v st) out)
    (hkp : ∀ v st, kp v st = some out → Evl (fun n => KP n v st) out) (h : opC C EI op s st k kp = some out) : Evl (fun n => opC C (E n) op s st (K n) (KP n)) out := by
  unfold opC at h ⊢
  cases ho : opK op s with
  | o x =>
    rw [ho] at h
    cases x with
    | none => simp [o1] at h
    | some v => simpa [o1] using hk v st h
  | val p =>
    rw [ho] at h
    simp only [p1] at h ⊢
    cases hr : p.run st with
    | none => simp [hr] at h
    | some q => obtain ⟨v, st'⟩ := q; rw [hr] at h; exact hk v st' h
  | call fv args => rw [ho] at h; exact c1_ev (fun o => callF_ev hE) hk hkp h
  | pcall f args => rw [ho] at h; exact c1_ev (fun o => pcallF_ev hE) hk hkp h
  | panv v =>
    rw [ho] at h
    simp only [pn1] at h ⊢
    split at h
    · exact hkp _ _ h
    · simp at h
  | dfr fv args =>
    rw [ho] at h
    simp only [df1] at h ⊢
    cases hf : fnOf fv with
    | none => simp [hf] at h
    | some q => obtain ⟨f, a, b⟩ := q; rw [hf] at h; exact hk _ _ h
  | rcv =>
    rw [ho] at h
    simp only [rc1] at h ⊢
    cases hr : st.rc with
    | none => simp [hr] at h
    | idle => rw [hr] at h; exact hk _ _ h
    | due v => rw [hr] at h; exact hk _ _ h
    | done v => rw [hr] at h; exact hk _ _ h
  | bad => rw [ho] at h; simp at h

theorem opsC_ev (hE : EnvEv EI E) {k : List V → St → Option α} {kp : V → List V → St → Option α} {K : Nat → List V → St → Option α} {KP : Nat → V → List V → St → Option α} {out : α}
    (hk : ∀ s st, k s st = some out → Evl (fun n => K n s st) out) (hkp : ∀ v s st, kp v s st = some out → Evl (fun n => KP n v s st) out) :
    ∀ (l : List COper) (s : List V) (st : St), opsC C EI k kp l s st = some out → Evl (fun n => opsC C (E n) (K n) (KP n) l s st) out
  | [], s, st, h => hk s st h
  | o :: l, s, st, h => by
    simp only [opsC] at h ⊢
    exact opC_ev hE (fun v st' h => opsC_ev hE hk hkp l _ _ h) (fun v st' h => hkp v s st' h) h

theorem grpC_ev (hE : EnvEv EI E) {g : Nat × Bool} {ops : List COper} {s : List V} {st : St} {r : GRes} (h : grpC C EI g ops s st = some r) : Evl (fun n => grpC C (E n) g ops s st) r := by
  unfold grpC at h ⊢
  cases hw : wantedV s (some g) with
  | none => rw [hw] at h; simp [w1] at h
  | some b =>
    rw [hw] at h
    cases b with
    | true => exact opsC_ev hE (fun s st h => Evl.of (fun _ => h)) (fun v s st h => Evl.of (fun _ => h)) ops s st h
    | false => exact Evl.of (fun _ => h)

theorem evGs_ev (hE : EnvEv EI E) {k : List V → St → Option α} {kp : V → List V → St → Option α} {K : Nat → List V → St → Option α} {KP : Nat → V → List V → St → Option α} {out : α}
    (hk : ∀ s st, k s st = some out → Evl (fun n => K n s st) out) (hkp : ∀ v s st, kp v s st = some out → Evl (fun n => KP n v s st) out) :
    ∀ (gs : List Grp) (s : List V) (st : St), evGs C EI k kp gs s st = some out → Evl (fun n => evGs C (E n) (K n) (KP n) gs s st) out
  | [], s, st, h => hk s st h
  | ⟨none, ops⟩ :: gs, s, st, h => by
    simp only [evGs] at h ⊢
    exact opsC_ev hE (fun s st h => evGs_ev hE hk hkp gs s st h) hkp ops s st h
  | ⟨some g, ops⟩ :: gs, s, st, h => by
    simp only [evGs] at h ⊢
    cases hg : grpC C EI g ops s st with
    | none => rw [hg] at h; simp [g1] at h
    | some r =>
      rw [hg] at h
      cases r with
      | ok vs st' => exact Evl.bind (grpC_ev hE hg) (evGs_ev hE hk hkp gs _ _ h) (fun m hm => by simp only [hm, g1])
      | pan v st' => exact Evl.bind (grpC_ev hE hg) (hkp v s st' h) (fun m hm => by simp only [hm, g1])

theorem cl1_ev {x : Option Out} {X : Nat → Option Out} (hx : ∀ o, x = some o → Evl X o) {k : V → St → Log → Option α} {K : Nat → V → St → Log → Option α} {out : α} (hk : ∀ v st lg, k v st lg = some out → Evl (fun n => K n v st lg) out)
    (h : cl1 x k = some out) : Evl (fun n => cl1 (X n) (K n)) out := by
  cases hx1 : x with
  | none => rw [hx1] at h; simp [cl1] at h
  | some o =>
    obtain ⟨r, st'⟩ := o
    rw [hx1] at h
    cases r with
    | ret v => exact Evl.bind (hx _ hx1) (hk v st' _ h) (fun m hm => by simp only [hm, cl1])
    | pan v => simp [cl1] at h

theorem opCL_ev (hE : EnvEv EI E) {op : COp} {s : List V} {st : St} {k : V → St → Log → Option α} {K : Nat → V → St → Log → Option α} {out : α} (hk : ∀ v st lg, k v st lg = some out → Evl (fun n => K n v st lg) out)
    (h : opCL C EI op s st k = some out) : Evl (fun n => opCL C (E n) op s st (K n)) out := by
  unfold opCL at h ⊢
  cases ho : opK op s with
  | o x =>
    rw [ho] at h
    cases x with
    | none => simp [o1] at h
    | some v => simpa [o1] using hk v st lg0 h
  | val p =>
    rw [ho] at h
    simp only [pl1] at h ⊢
    cases hr : p.runL st ⟨[], [], false⟩ with
    | none => simp [hr] at h
    | some q => obtain ⟨v, st', fp⟩ := q; rw [hr] at h; exact hk v st' _ h
  | call fv args =>
    rw [ho] at h
    simp only [cl2] at h ⊢
    cases hs : spOf C fv args with
    | some p =>
      simp only [hs, pl1] at h ⊢
      cases hr : p.runL st ⟨[], [], false⟩ with
      | none => simp [hr] at h
      | some q => obtain ⟨v, st', fp⟩ := q; rw [hr] at h; exact hk v st' _ h
    | none => simp only [hs] at h; exact cl1_ev (fun o => callF0_ev hE) hk h
  | pcall f args => rw [ho] at h; exact c1_ev (fun o => pcallF_ev hE) (K := fun n v st => K n v st lg0) (KP := fun _ _ _ => none) (fun v st h => hk v st lg0 h) (fun v st h => by simp at h) h
  | _ => rw [ho] at h; simp at h

theorem opsCL_ev (hE : EnvEv EI E) {k : Nat → List (Nat × Log) → List V → St → Option α} {K : Nat → Nat → List (Nat × Log) → List V → St → Option α} {out : α}
    (hk : ∀ i logs s st, k i logs s st = some out → Evl (fun n => K n i logs s st) out) :
    ∀ (l : List COper) (i : Nat) (logs : List (Nat × Log)) (s : List V) (st : St), opsCL C EI k i l logs s st = some out → Evl (fun n => opsCL C (E n) (K n) i l logs s st) out
  | [], i, logs, s, st, h => hk i logs s st h
  | o :: l, i, logs, s, st, h => by
    simp only [opsCL] at h ⊢
    exact opCL_ev hE (fun v st' lg h => opsCL_ev hE hk l _ _ _ _ h) h

theorem evGsL_ev (hE : EnvEv EI E) {pr : List (List Nat)} {k : List V → St → Option α} {K : Nat → List V → St → Option α} {out : α} (hk : ∀ s st, k s st = some out → Evl (fun n => K n s st) out) :
    ∀ (gs : List Grp) (i : Nat) (logs : List (Nat × Log)) (s : List V) (st : St), evGsL C EI pr k i gs logs s st = some out → Evl (fun n => evGsL C (E n) pr (K n) i gs logs s st) out
  | [], i, logs, s, st, h => by
    simp only [evGsL] at h ⊢
    cases hok : okLogs pr logs with
    | true => rw [hok] at h; simpa using hk s st h
    | false => rw [hok] at h; simp at h
  | ⟨g, ops⟩ :: gs, i, logs, s, st, h => by
    simp only [evGsL] at h ⊢
    cases hw : wantedV s g with
    | none => rw [hw] at h; simp at h
    | some b =>
      rw [hw] at h
      cases b with
      | true => exact opsCL_ev hE (fun i logs s st h => evGsL_ev hE hk gs i logs s st h) ops i logs s st h
      | false => exact evGsL_ev hE hk gs _ _ _ _ h

theorem leaveD_ev (hE : EnvEv EI E) {keep : Bool} {rs : List (V × Option (Nat × Bool))} {out : Out} : ∀ (n : Nat) (md : Md) (st : St), leaveD EI keep rs n md st = some out → Evl (fun m => leaveD (E m) keep rs n md st) out
  | 0, md, st, h => by simp [leaveD] at h
  | n + 1, md, st, h => by
    simp only [leaveD] at h ⊢
    cases hd : st.dfr with
    | nil => rw [hd] at h; exact Evl.of (fun _ => h)
    | cons d ds =>
      rw [hd] at h
      simp only at h ⊢
      cases md with
      | ret =>
        simp only at h ⊢
        cases hc : EI d.f d.args { st with dfr := [], rc := .idle } with
        | none => rw [hc] at h; simp at h
        | some o =>
          obtain ⟨r, st'⟩ := o
          rw [hc] at h
          cases r with
          | pan v => simp at h
          | ret v =>
            simp only at h
            cases hr : st'.rc with
            | idle =>
              simp only [hr] at h
              exact Evl.bind (hE _ _ _ _ hc) (leaveD_ev hE n _ _ h) (fun m hm => by simp only [hm, hr])
            | none => simp [hr] at h
            | due w => simp [hr] at h
            | done w => simp [hr] at h
      | pan v0 =>
        simp only at h ⊢
        cases hc : EI d.f d.args { st with dfr := [], rc := .due v0 } with
        | none => rw [hc] at h; simp at h
        | some o =>
          obtain ⟨r, st'⟩ := o
          rw [hc] at h
          cases r with
          | pan v => simp at h
          | ret v =>
            simp only at h
            cases hr : st'.rc with
            | idle => simp [hr] at h
            | none => simp [hr] at h
            | due w =>
              simp only [hr] at h
              exact Evl.bind (hE _ _ _ _ hc) (leaveD_ev hE n _ _ h) (fun m hm => by simp only [hm, hr])
            | done w =>
              simp only [hr] at h
              exact Evl.bind (hE _ _ _ _ hc) (leaveD_ev hE n _ _ h) (fun m hm => by simp only [hm, hr])

theorem leaveDn_ev (hE : EnvEv EI E) {keep : Bool} {rs : List (V × Option (Nat × Bool))} {out : Out} {md : Md} {st : St} (h : leaveDn EI keep rs md st = some out) : Evl (fun m => leaveDn (E m) keep rs md st) out := by
  unfold leaveDn at h ⊢
  cases hr : st.rc with
  | none => rw [hr] at h; exact leaveD_ev hE 8 md st h
  | idle => rw [hr] at h; simp at h
  | due v => rw [hr] at h; simp at h
  | done v => rw [hr] at h; simp at h

theorem leaveR_ev (hE : EnvEv EI E) {fn : CFn} {s : List V} {st : St} {out : Out} (h : leaveR EI fn s st = some out) : Evl (fun m => leaveR (E m) fn s st) out := by
  unfold leaveR at h ⊢
  cases hr : resultsV s fn.results with
  | none => rw [hr] at h; simp at h
  | some rs =>
    rw [hr] at h
    simp only at h ⊢
    cases hd : fn.defers with
    | true => rw [hd] at h; exact leaveDn_ev hE h
    | false => rw [hd] at h; exact Evl.of (fun _ => h)

theorem leaveP_ev (hE : EnvEv EI E) {fn : CFn} {v : V} {s : List V} {st : St} {out : Out} (h : leaveP EI fn v s st = some out) : Evl (fun m => leaveP (E m) fn v s st) out := by
  unfold leaveP at h ⊢
  cases hd : fn.defers with
  | true =>
    rw [hd] at h
    simp only [cond_true] at h ⊢
    cases hr : resultsV s fn.results with
    | none => rw [hr] at h; simp at h
    | some rs => rw [hr] at h; exact leaveDn_ev hE h
  | false => rw [hd] at h; exact Evl.of (fun _ => h)

theorem stepA_ev (hE : EnvEv EI E) {fn : CFn} {rI : List CItem → List V → St → Option Out} {R : Nat → List CItem → List V → St → Option Out} {out : Out} (hr : ∀ todo s st, rI todo s st = some out → Evl (fun n => R n todo s st) out)
    {todo : List CItem} {s : List V} {st : St} (h : stepA C EI fn rI todo s st = some out) : Evl (fun n => stepA C (E n) fn (R n) todo s st) out := by
  cases todo with
  | nil => exact leaveR_ev hE h
  | cons i k =>
    cases i with
    | inBlock id => exact hr _ _ _ h
    | inLoop b => exact hr _ _ _ h
    | code c =>
      cases c with
      | skip => exact hr _ _ _ h
      | ret => exact leaveR_ev hE h
      | seq a b => exact hr _ _ _ h
      | cond c x y =>
        simp only [stepA] at h ⊢
        cases ha : arg s c with
        | none => rw [ha] at h; simp at h
        | some v =>
          rw [ha] at h
          simp only [b1] at h ⊢
          cases hv : vBool v with
          | none => rw [hv] at h; simp at h
          | some t =>
            rw [hv] at h
            cases t with
            | true => exact hr _ _ _ h
            | false => exact hr _ _ _ h
      | block id b => exact hr _ _ _ h
      | loop b => exact hr _ _ _ h
      | exit id =>
        simp only [stepA] at h ⊢
        cases hx : exitC id k with
        | none => rw [hx] at h; simp at h
        | some k' => rw [hx] at h; exact hr _ _ _ h
      | region id live gs draw =>
        simp only [stepA] at h ⊢
        cases draw with
        | dyn pr => exact evGsL_ev hE (fun s st h => hr _ _ _ h) gs _ _ _ _ h
        | stat => exact evGs_ev hE (KP := fun _ _ _ _ => none) (fun s st h => hr _ _ _ h) (fun v s st h => by simp at h) gs _ _ h
        | flip gs2 =>
          obtain ⟨h1, h2⟩ := both_some h
          obtain ⟨n1, q1⟩ := evGs_ev hE (KP := fun _ _ _ _ => none) (fun s st h => hr _ _ _ h) (fun v s st h => by simp at h) gs _ _ h1
          obtain ⟨n2, q2⟩ := evGs_ev hE (KP := fun _ _ _ _ => none) (fun s st h => hr _ _ _ h) (fun v s st h => by simp at h) gs2 _ _ h2
          refine ⟨max n1 n2, fun m hm => both_le (fun o ho => ?_) (fun o ho => ?_) h⟩
          · rw [h1] at ho
            simp only [Option.some.injEq] at ho
            subst ho
            exact q1 m (by omega)
          · rw [h2] at ho
            simp only [Option.some.injEq] at ho
            subst ho
            exact q2 m (by omega)
        | no => exact evGs_ev hE (KP := fun n => leaveP (E n) fn) (fun s st h => hr _ _ _ h) (fun v s st h => leaveP_ev hE h) gs _ _ h
      | bad => simp [stepA] at h

/-! ## More steps tell the same -/
def EnvLe (A B : Env) : Prop := ∀ f args st o, A f args st = some o → B f args st = some o

theorem EnvLe.ev {A B : Env} (h : EnvLe A B) : EnvEv A (fun _ => B) := fun f args st o ho => Evl.of (fun _ => h f args st o ho)

theorem stepA_mono {A B : Env} (hE : EnvLe A B) {fn : CFn} {r R : List CItem → List V → St → Option Out} {out : Out} (hr : ∀ todo s st, r todo s st = some out → R todo s st = some out)
    {todo : List CItem} {s : List V} {st : St} (h : stepA C A fn r todo s st = some out) : stepA C B fn R todo s st = some out := by
  obtain ⟨n, hn⟩ := stepA_ev (C := C) (R := fun _ => R) hE.ev (fun todo s st h => Evl.of (fun _ => hr _ _ _ h)) h
  exact hn n (Nat.le_refl _)

theorem runA_mono {A B : Env} (hE : EnvLe A B) {fn : CFn} {out : Out} : ∀ (n m : Nat), n ≤ m → ∀ (todo : List CItem) (s : List V) (st : St), runA C A fn n todo s st = some out → runA C B fn m todo s st = some out
  | 0, m, _, todo, s, st, h => by simp [runA] at h
  | n + 1, 0, hm, _, _, _, _ => by omega
  | n + 1, m + 1, hm, todo, s, st, h => stepA_mono hE (fun todo s st h => runA_mono hE n m (by omega) todo s st h) h

theorem enterF_mono {A B : Env} (hE : EnvLe A B) {n m : Nat} (hm : n ≤ m) : EnvLe (enterF C A n) (enterF C B m) := by
  intro f args st o h
  unfold enterF at h ⊢
  cases hf : C.fn f with
  | none => rw [hf] at h; simp at h
  | some fn =>
    rw [hf] at h
    simp only at h ⊢
    cases hb : Nat.ble args.length fn.ntmps with
    | false => rw [hb] at h; simp at h
    | true => rw [hb] at h; exact runA_mono hE n m hm _ _ _ h

theorem evalF_mono : ∀ (n m : Nat), n ≤ m → EnvLe (evalF C n) (evalF C m)
  | 0, m, _ => fun f args st o h => by simp [evalF] at h
  | n + 1, 0, hm => by omega
  | n + 1, m + 1, hm => enterF_mono (evalF_mono n m (by omega)) (by omega)

end

/-- A call's answer, with as many steps as it needs. -/
noncomputable def EI (C : Cfg) : Env := fun f args st => by
  classical
  exact if h : ∃ o n, evalF C n f args st = some o then some h.choose else none

/-- A run's end, with as many steps as it needs. -/
noncomputable def RI (C : Cfg) (fn : CFn) : List CItem → List V → St → Option Out := fun todo s st => by
  classical
  exact if h : ∃ o n, runA C (evalF C n) fn n todo s st = some o then some h.choose else none

section
variable {C : Cfg} {fn : CFn}

theorem EI_iff {f : FuncId} {args : List V} {st : St} {o : Out} : EI C f args st = some o ↔ ∃ n, evalF C n f args st = some o := by
  unfold EI
  constructor
  · intro h
    split at h
    · rename_i hx
      simp only [Option.some.injEq] at h
      rw [← h]
      exact hx.choose_spec
    · simp at h
  · rintro ⟨n, hn⟩
    have hx : ∃ o n, evalF C n f args st = some o := ⟨o, n, hn⟩
    rw [dif_pos hx]
    obtain ⟨m, hm⟩ := hx.choose_spec
    have h1 := evalF_mono n (max n m) (by omega) _ _ _ _ hn
    have h2 := evalF_mono m (max n m) (by omega) _ _ _ _ hm
    rw [h1] at h2
    exact h2.symm

theorem RI_iff {todo : List CItem} {s : List V} {st : St} {o : Out} : RI C fn todo s st = some o ↔ ∃ n, runA C (evalF C n) fn n todo s st = some o := by
  unfold RI
  constructor
  · intro h
    split at h
    · rename_i hx
      simp only [Option.some.injEq] at h
      rw [← h]
      exact hx.choose_spec
    · simp at h
  · rintro ⟨n, hn⟩
    have hx : ∃ o n, runA C (evalF C n) fn n todo s st = some o := ⟨o, n, hn⟩
    rw [dif_pos hx]
    obtain ⟨m, hm⟩ := hx.choose_spec
    have h1 := runA_mono (evalF_mono n (max n m) (by omega)) n (max n m) (by omega) _ _ _ hn
    have h2 := runA_mono (evalF_mono m (max n m) (by omega)) m (max n m) (by omega) _ _ _ hm
    rw [h1] at h2
    exact h2.symm

theorem EI_ev : EnvEv (EI C) (evalF C) := fun f args st o h => by
  obtain ⟨n, hn⟩ := EI_iff.1 h
  exact ⟨n, fun m hm => evalF_mono n m hm _ _ _ _ hn⟩

theorem RI_ev {todo : List CItem} {s : List V} {st : St} {o : Out} (h : RI C fn todo s st = some o) : Evl (fun n => runA C (evalF C n) fn n todo s st) o := by
  obtain ⟨n, hn⟩ := RI_iff.1 h
  exact ⟨n, fun m hm => runA_mono (evalF_mono n m hm) n m hm _ _ _ hn⟩

/-- One step at the limit. -/
theorem RI_step {todo : List CItem} {s : List V} {st : St} {o : Out} : stepA C (EI C) fn (RI C fn) todo s st = some o ↔ RI C fn todo s st = some o := by
  constructor
  · intro h
    obtain ⟨n, hn⟩ := stepA_ev (R := fun n => runA C (evalF C n) fn n) EI_ev (fun todo s st h => RI_ev h) h
    refine RI_iff.2 ⟨n + 1, ?_⟩
    exact runA_mono (evalF_mono n (n + 1) (by omega)) (n + 1) (n + 1) (Nat.le_refl _) _ _ _ (hn n (Nat.le_refl _))
  · intro h
    obtain ⟨n, hn⟩ := RI_iff.1 h
    cases n with
    | zero => simp [runA] at hn
    | succ n =>
      have hn : stepA C (evalF C (n + 1)) fn (runA C (evalF C (n + 1)) fn n) todo s st = some o := hn
      exact stepA_mono (fun f args st o h => EI_iff.2 ⟨_, h⟩) (fun todo s st h => RI_iff.2 ⟨n + 1, runA_mono (evalF_mono (n + 1) (n + 1) (Nat.le_refl _)) n (n + 1) (by omega) _ _ _ h⟩) hn

/-- A call at the limit. -/
theorem EI_fn {f : FuncId} {args : List V} {st : St} {o : Out} (hf : C.fn f = some fn) (hl : Nat.ble args.length fn.ntmps = true)
    (h : RI C fn [.code fn.code] (args ++ List.replicate (fn.ntmps - args.length) (.tup [])) st = some o) : EI C f args st = some o := by
  obtain ⟨n, hn⟩ := RI_iff.1 h
  refine EI_iff.2 ⟨n + 1, ?_⟩
  show enterF C (evalF C n) n f args st = some o
  unfold enterF
  simp only [hf, hl, cond_true]
  exact hn

theorem mask_mask (l : List Nat) : ∀ (s : List V) (n : Nat), maskGo l (maskGo l s n) n = maskGo l s n
  | [], n => rfl
  | v :: s, n => by
    simp only [maskGo, mask_mask l s (n + 1)]
    cases memN n l <;> rfl

/-- A block's text at the limit: some steps, up to the next block. -/
theorem unroll_lim : ∀ (n : Nat) (b : Bool) (todo : List CItem) (s : List V) (st : St) (o : Out), unroll C (EI C) fn (RI C fn) n b todo s st = some o → RI C fn todo s st = some o
  | 0, b, todo, s, st, o, h => h
  | n + 1, b, todo, s, st, o, h => by
    have stp : stepA C (EI C) fn (unroll C (EI C) fn (RI C fn) n false) todo s st = some o → RI C fn todo s st = some o := fun h =>
      RI_step.1 (stepA_mono (fun _ _ _ _ h => h) (fun todo s st h => unroll_lim n false todo s st o h) h)
    unfold unroll at h
    cases b with
    | true => exact stp h
    | false =>
      simp only [cond_false] at h
      cases hst : isStart todo with
      | none => rw [hst] at h; exact stp h
      | some l =>
        rw [hst] at h
        simp only at h
        have h := RI_step.2 h
        refine RI_step.1 ?_
        match todo, hst with
        | .code (.region id (some l') gs draw) :: k, hst =>
          simp only [isStart, Option.some.injEq] at hst
          subst hst
          simp only [stepA, liveAt, mask_mask] at h ⊢
          exact h

end
end Go.AM
namespace Go.AM
open Go

/-! # Tables of blocks -/
abbrev Rec' := Nat → List V → St → Option Out
abbrev Blk := Cfg → Env → Rec' → List V → St → Option Out

structure Ent where
  fn : CFn
  KT : Nat → List CItem
  ST : Nat → List V → List V
  bs : List Blk

def nthB : List Blk → Nat → Blk
  | [], _ => fun _ _ _ _ _ => none
  | v :: l, n => Nat.casesOn (motive := fun _ => Blk) n v (fun n => nthB l n)
def nthE : List (Option Ent) → Nat → Option Ent
  | [], _ => none
  | v :: l, n => Nat.casesOn (motive := fun _ => Option Ent) n v (fun n => nthE l n)

def Le1 {α : Type} (x y : Option α) : Prop := ∀ o, x = some o → y = some o

section
variable {α : Type} {C : Cfg} {E E' : Env}

theorem Le1.refl (x : Option α) : Le1 x x := fun _ h => h

theorem o1_le {x : Option V} {k k' : V → Option α} (h : ∀ v, Le1 (k v) (k' v)) : Le1 (o1 x k) (o1 x k') := by
  intro o ho; cases x with
  | none => simp [o1] at ho
  | some v => exact h v o ho

theorem p1_le {p : Pg V} {st : St} {k k' : V → St → Option α} (h : ∀ v st, Le1 (k v st) (k' v st)) : Le1 (p1 p st k) (p1 p st k') := by
  intro o ho
  unfold p1 at ho ⊢
  cases hr : p.run st with
  | none => rw [hr] at ho; simp at ho
  | some q => obtain ⟨v, st'⟩ := q; rw [hr] at ho; exact h v st' o ho

theorem pl1_le {p : Pg V} {st : St} {k k' : V → St → Log → Option α} (h : ∀ v st lg, Le1 (k v st lg) (k' v st lg)) : Le1 (pl1 p st k) (pl1 p st k') := by
  intro o ho
  unfold pl1 at ho ⊢
  cases hr : p.runL st ⟨[], [], false⟩ with
  | none => rw [hr] at ho; simp at ho
  | some q => obtain ⟨v, st', fp⟩ := q; rw [hr] at ho; exact h v st' _ o ho

theorem c1_le {x x' : Option Out} (hx : Le1 x x') {k k' kp kp' : V → St → Option α} (h : ∀ v st, Le1 (k v st) (k' v st)) (hp : ∀ v st, Le1 (kp v st) (kp' v st)) : Le1 (c1 x k kp) (c1 x' k' kp') := by
  intro o ho
  cases hx1 : x with
  | none => rw [hx1] at ho; simp [c1] at ho
  | some q =>
    obtain ⟨r, st'⟩ := q
    rw [hx1] at ho
    rw [hx _ hx1]
    cases r with
    | ret v => exact h v st' o ho
    | pan v => exact hp v st' o ho

theorem callF0_le (hE : EnvLe E E') {fv : V} {args : List V} {st : St} : Le1 (callF0 C E fv args st) (callF0 C E' fv args st) := fun o ho => by
  obtain ⟨n, hn⟩ := callF0_ev (C := C) hE.ev ho
  exact hn n (Nat.le_refl _)

theorem callF_le (hE : EnvLe E E') {fv : V} {args : List V} {st : St} : Le1 (callF C E fv args st) (callF C E' fv args st) := fun o ho => by
  obtain ⟨n, hn⟩ := callF_ev (C := C) hE.ev ho
  exact hn n (Nat.le_refl _)

theorem pcallF_le (hE : EnvLe E E') {f : FuncId} {args : List V} {st : St} : Le1 (pcallF E f args st) (pcallF E' f args st) := fun o ho => by
  obtain ⟨n, hn⟩ := pcallF_ev hE.ev ho
  exact hn n (Nat.le_refl _)

theorem call_le (hE : EnvLe E E') {fv : V} {args : List V} {st : St} {k k' kp kp' : V → St → Option α} (h : ∀ v st, Le1 (k v st) (k' v st)) (hp : ∀ v st, Le1 (kp v st) (kp' v st)) :
    Le1 (c1 (callF C E fv args st) k kp) (c1 (callF C E' fv args st) k' kp') := c1_le (callF_le hE) h hp

theorem pcall_le (hE : EnvLe E E') {f : FuncId} {args : List V} {st : St} {k k' kp kp' : V → St → Option α} (h : ∀ v st, Le1 (k v st) (k' v st)) (hp : ∀ v st, Le1 (kp v st) (kp' v st)) :
    Le1 (c1 (pcallF E f args st) k kp) (c1 (pcallF E' f args st) k' kp') := c1_le (pcallF_le hE) h hp

theorem cl2_le (hE : EnvLe E E') {fv : V} {args : List V} {st : St} {k k' : V → St → Log → Option α} (h : ∀ v st lg, Le1 (k v st lg) (k' v st lg)) : Le1 (cl2 C E fv args st k) (cl2 C E' fv args st k') := by
  unfold cl2
  cases spOf C fv args with
  | some p => exact pl1_le h
  | none =>
    intro o ho
    simp only at ho ⊢
    cases hx1 : callF0 C E fv args st with
    | none => rw [hx1] at ho; simp [cl1] at ho
    | some q =>
      obtain ⟨r, st'⟩ := q
      rw [hx1] at ho
      rw [callF0_le hE _ hx1]
      cases r with
      | ret v => exact h v st' _ o ho
      | pan v => simp [cl1] at ho

theorem both_le1 {a a' b b' : Option Out} (ha : Le1 a a') (hb : Le1 b b') : Le1 (both a b) (both a' b') := fun _ h => both_le ha hb h

theorem b1_le {v : V} {a a' b b' : Option α} (ha : Le1 a a') (hb : Le1 b b') : Le1 (b1 v a b) (b1 v a' b') := by
  intro o ho
  unfold b1 at ho ⊢
  cases hv : vBool v with
  | none => rw [hv] at ho; simp at ho
  | some t => rw [hv] at ho; cases t with
    | true => exact ha o ho
    | false => exact hb o ho

theorem w1_le {x : Option Bool} {a a' b b' : Option α} (ha : Le1 a a') (hb : Le1 b b') : Le1 (w1 x a b) (w1 x a' b') := by
  intro o ho
  cases x with
  | none => simp [w1] at ho
  | some t => cases t with
    | true => exact ha o ho
    | false => exact hb o ho

theorem g1_le {x x' : Option GRes} (hx : Le1 x x') {k k' : List V → St → Option α} {kp kp' : V → St → Option α} (h : ∀ v st, Le1 (k v st) (k' v st)) (hp : ∀ v st, Le1 (kp v st) (kp' v st)) : Le1 (g1 x k kp) (g1 x' k' kp') := by
  intro o ho
  cases hx1 : x with
  | none => rw [hx1] at ho; simp [g1] at ho
  | some q =>
    rw [hx1] at ho
    rw [hx _ hx1]
    cases q with
    | ok vs st' => exact h vs st' o ho
    | pan v st' => exact hp v st' o ho

theorem bif_le {c : Bool} {a a' : Option α} (h : Le1 a a') : Le1 (bif c then a else none) (bif c then a' else none) := by cases c <;> first | exact h | exact Le1.refl _

theorem df1_le {fv : V} {args : List V} {st : St} {k k' : V → St → Option α} (h : ∀ v st, Le1 (k v st) (k' v st)) : Le1 (df1 fv args st k) (df1 fv args st k') := by
  intro o ho
  unfold df1 at ho ⊢
  cases hf : fnOf fv with
  | none => rw [hf] at ho; simp at ho
  | some q => obtain ⟨f, a, b⟩ := q; rw [hf] at ho; exact h _ _ o ho

theorem rc1_le {st : St} {k k' : V → St → Option α} (h : ∀ v st, Le1 (k v st) (k' v st)) : Le1 (rc1 st k) (rc1 st k') := by
  intro o ho
  unfold rc1 at ho ⊢
  cases hr : st.rc with
  | none => rw [hr] at ho; simp at ho
  | idle => rw [hr] at ho; exact h _ _ o ho
  | due v => rw [hr] at ho; exact h _ _ o ho
  | done v => rw [hr] at ho; exact h _ _ o ho

theorem pn1_le {v : V} {st : St} {k k' : V → St → Option α} (h : ∀ v st, Le1 (k v st) (k' v st)) : Le1 (pn1 v st k) (pn1 v st k') := by
  intro o ho
  unfold pn1 at ho ⊢
  split at ho
  · exact h _ _ o ho
  · simp at ho

theorem leaveDn_le (hE : EnvLe E E') {keep : Bool} {rs : List (V × Option (Nat × Bool))} {md : Md} {st : St} : Le1 (leaveDn E keep rs md st) (leaveDn E' keep rs md st) := fun o ho => by
  obtain ⟨n, hn⟩ := leaveDn_ev hE.ev ho
  exact hn n (Nat.le_refl _)

end

/-- What a block is: some steps of the function's text; and more steps tell the same. -/
structure BlkOk (C : Cfg) (e : Ent) (k : Nat) (b : Blk) : Prop where
  run : ∀ E g xs st o, b C E (fun k xs st => g (e.KT k) (e.ST k xs) st) xs st = some o → unroll C E e.fn g 400 true (e.KT k) (e.ST k xs) st = some o
  mono : ∀ E E' r r' xs st, EnvLe E E' → (∀ k xs st, Le1 (r k xs st) (r' k xs st)) → Le1 (b C E r xs st) (b C E' r' xs st)

def BlksOk (C : Cfg) (e : Ent) : Nat → List Blk → Prop
  | _, [] => True
  | k, b :: l => BlkOk C e k b ∧ BlksOk C e (k + 1) l

structure EntOk (C : Cfg) (e : Ent) : Prop where
  blks : BlksOk C e 0 e.bs
  k0 : e.KT 0 = [.code e.fn.code]
  s0 : ∀ E r xs st o, nthB e.bs 0 C E r xs st = some o → Nat.ble xs.length e.fn.ntmps = true ∧ e.ST 0 xs = xs ++ List.replicate (e.fn.ntmps - xs.length) (.tup [])

def EntsOk (C : Cfg) : List (Option Ent) → Prop
  | [] => True
  | none :: l => EntsOk C l
  | some e :: l => EntOk C e ∧ EntsOk C l

theorem EntsOk.get {C : Cfg} : ∀ {l : List (Option Ent)} {f : Nat} {e : Ent}, EntsOk C l → nthE l f = some e → EntOk C e
  | [], f, e, _, h => by simp [nthE] at h
  | x :: l, 0, e, ho, h => by
    have h : x = some e := h
    subst h
    exact ho.1
  | x :: l, f + 1, e, ho, h => by
    have h : nthE l f = some e := h
    cases x with
    | none => exact EntsOk.get (l := l) ho h
    | some y => exact EntsOk.get (l := l) ho.2 h

theorem BlksOk.get {C : Cfg} {e : Ent} : ∀ {l : List Blk} {j k : Nat} {E : Env} {r : Rec'} {xs : List V} {st : St} {o : Out}, BlksOk C e j l → nthB l k C E r xs st = some o → BlkOk C e (j + k) (nthB l k)
  | [], j, k, E, r, xs, st, o, _, h => by simp [nthB] at h
  | b :: l, j, 0, E, r, xs, st, o, hb, h => hb.1
  | b :: l, j, k + 1, E, r, xs, st, o, hb, h => by
    have := BlksOk.get (l := l) (j := j + 1) (k := k) hb.2 h
    rw [show j + (k + 1) = j + 1 + k by omega]
    exact this

/-- A function's run from a block on, with as many steps as it needs. -/
noncomputable def Rn (C : Cfg) (e : Ent) : Rec' := fun k xs st => RI C e.fn (e.KT k) (e.ST k xs) st

section
variable {C : Cfg} {ents : List (Option Ent)}

/-- A block at the limit. -/
theorem blk_lim {e : Ent} (he : EntOk C e) {k : Nat} {xs : List V} {st : St} {o : Out} (h : nthB e.bs k C (EI C) (Rn C e) xs st = some o) : Rn C e k xs st = some o := by
  have hb := BlksOk.get he.blks h
  rw [Nat.zero_add] at hb
  exact unroll_lim 400 true _ _ _ _ (hb.run (EI C) (RI C e.fn) xs st o h)

/-- A call at the limit. -/
theorem call_lim {e : Ent} {f : FuncId} (hf : C.fn f = some e.fn) (he : EntOk C e) {args : List V} {st : St} {o : Out} (h : nthB e.bs 0 C (EI C) (Rn C e) args st = some o) : EI C f args st = some o := by
  obtain ⟨h1, h2⟩ := he.s0 _ _ _ _ _ h
  have := blk_lim he h
  unfold Rn at this
  rw [he.k0, h2] at this
  exact EI_fn hf h1 this

def crE (ih : FuncId → Rec') : Env := fun g args st => ih g 0 args st

/-- The run by blocks, so many of them. -/
noncomputable def cr (C : Cfg) (ents : List (Option Ent)) (n : Nat) : FuncId → Rec' :=
  Nat.rec (motive := fun _ => FuncId → Rec') (fun _ _ _ _ => none) (fun _ ih f k xs st => match nthE ents f with
    | some e => nthB e.bs k C (crE ih) (ih f) xs st
    | none => none) n

theorem cr_ok (hfn : ∀ f e, nthE ents f = some e → C.fn f = some e.fn) (hE : EntsOk C ents) : ∀ (n : Nat) (f : FuncId) (k : Nat) (xs : List V) (st : St) (o : Out), cr C ents n f k xs st = some o →
    ∃ e, nthE ents f = some e ∧ nthB e.bs k C (EI C) (Rn C e) xs st = some o ∧ Rn C e k xs st = some o
  | 0, f, k, xs, st, o, h => by simp [cr] at h
  | n + 1, f, k, xs, st, o, h => by
    have ih := cr_ok hfn hE n
    have h : (match nthE ents f with
      | some e => nthB e.bs k C (crE (cr C ents n)) (cr C ents n f) xs st
      | none => none) = some o := h
    cases he : nthE ents f with
    | none => rw [he] at h; simp at h
    | some e =>
      rw [he] at h
      simp only at h
      have ho := hE.get he
      have hb := BlksOk.get ho.blks h
      have h2 := hb.mono (crE (cr C ents n)) (EI C) (cr C ents n f) (Rn C e) xs st ?_ ?_ o h
      · exact ⟨e, rfl, h2, blk_lim ho h2⟩
      · intro g args st o hg
        obtain ⟨e', q1, q2, _⟩ := ih g 0 args st o hg
        exact call_lim (hfn g e' q1) (hE.get q1) q2
      · intro k xs st o hr
        obtain ⟨e', q1, _, q3⟩ := ih f k xs st o hr
        rw [he] at q1
        simp only [Option.some.injEq] at q1
        subst q1
        exact q3

/-- A call that was run. -/
theorem cr_EI (hfn : ∀ f e, nthE ents f = some e → C.fn f = some e.fn) (hE : EntsOk C ents) {n : Nat} {f : FuncId} {args : List V} {st : St} {o : Out} (h : cr C ents n f 0 args st = some o) : EI C f args st = some o := by
  obtain ⟨e, q1, q2, _⟩ := cr_ok hfn hE n f 0 args st o h
  exact call_lim (hfn f e q1) (hE.get q1) q2

/-- Is a call's answer true? -/
def okB (x : Option Out) : Bool := match x with
  | some (.ret (.d (.bool b)), _) => b
  | _ => false

theorem okB_spec {x : Option Out} (h : okB x = true) : ∃ st, x = some (.ret (.d (.bool true)), st) := by
  unfold okB at h
  split at h
  · rename_i b st; subst h; exact ⟨st, rfl⟩
  · simp at h

end

/-- The tables as a configuration. -/
def cfgOf (ents : List (Option Ent)) (pureT keepT dropT : List Nat) (sp : FuncId → Option (List V → Pg V)) : Cfg where
  fn f := match nthE ents f with
    | some e => some e.fn
    | none => none
  isPure f := !(memN f pureT)
  keepArgs f := memN f keepT
  drop f := memN f dropT
  sp := sp

theorem cfgOf_fn {ents : List (Option Ent)} {a b c : List Nat} {sp : FuncId → Option (List V → Pg V)} : ∀ f e, nthE ents f = some e → (cfgOf ents a b c sp).fn f = some e.fn := fun f e h => by
  simp only [cfgOf, h]

/-- A function's body. -/
def bodyOf (f : Func) : Code := match f.body with
  | some c => c
  | none => .skip

/-- All functions of a table are those of a program. -/
def FnsOk (P : Program) (gl : List (Nat × D)) : Nat → List (Option Ent) → Prop
  | _, [] => True
  | f, none :: l => FnsOk P gl (f + 1) l
  | f, some e :: l => (∃ func hn c, FnOk P gl f e.fn func hn c) ∧ FnsOk P gl (f + 1) l

theorem FnsOk.get {P : Program} {gl : List (Nat × D)} : ∀ {l : List (Option Ent)} {j f : Nat} {e : Ent}, FnsOk P gl j l → nthE l f = some e → ∃ func hn c, FnOk P gl (j + f) e.fn func hn c
  | [], j, f, e, _, h => by simp [nthE] at h
  | x :: l, j, 0, e, ho, h => by
    have h : x = some e := h
    subst h
    exact ho.1
  | x :: l, j, f + 1, e, ho, h => by
    have h : nthE l f = some e := h
    rw [show j + (f + 1) = j + 1 + f by omega]
    cases x with
    | none => exact FnsOk.get (l := l) ho h
    | some y => exact FnsOk.get (l := l) ho.2 h

theorem cfgOf_ok {P : Program} {gl : List (Nat × D)} {ents : List (Option Ent)} {a b c : List Nat} {sp : FuncId → Option (List V → Pg V)} (hm : P.follows .mixedOrders = true) (hf : FnsOk P gl 0 ents)
    (hsp : SpOk P gl (cfgOf ents a b c sp)) : CfgOk P gl (cfgOf ents a b c sp) := by
  refine ⟨hm, ?_, hsp⟩
  intro f fn h
  simp only [cfgOf] at h
  cases he : nthE ents f with
  | none => rw [he] at h; simp at h
  | some e =>
    rw [he] at h
    simp only [Option.some.injEq] at h
    subst h
    have := hf.get he
    rwa [Nat.zero_add] at this

end Go.AM
set_option linter.unusedVariables false
namespace Go.AM
open Go

/-! # Blocks as data: what a block does, reckoned once for all of them -/

/-- What a guarded group does. -/
inductive Bg where
  | o (x : Option V) (k : V → Bg)
  | p (p : Pg V) (k : V → Bg)
  | c (f : V) (a : List V) (k : V → Bg)
  | q (f : FuncId) (a : List V) (k : V → Bg)
  | w (v : V)
  | d (f : V) (a : List V) (k : V → Bg)
  | r (k : V → Bg)
  | n
  | f (vs : List V)

inductive Bk where
  | o (x : Option V) (k : V → Bk)
  | p (p : Pg V) (k : V → Bk)
  | c (f : V) (a : List V) (k kp : V → Bk)
  | q (f : FuncId) (a : List V) (k kp : V → Bk)
  | w (v : V) (kp : V → Bk)
  | d (f : V) (a : List V) (k : V → Bk)
  | r (k : V → Bk)
  | n
  | b (v : V) (x y : Bk)
  | g (want : Bool) (v : V) (a : Bg) (n : Nat) (k : List V → Bk) (kp : V → Bk)
  | j (n : Nat) (xs : List V)
  | t (keep : Bool) (rs : List (V × Option (Nat × Bool)))
  | l (keep : Bool) (rs : List (V × Option (Nat × Bool))) (md : Md)
  | x (v : V)
  | y (p : Pg V) (k : V → Log → Bk)
  | z (f : V) (a : List V) (k : V → Log → Bk)
  | ok (pr : List (List Nat)) (logs : List (Nat × Log)) (k : Bk)
  | fl (a b : Nat → Bk)
  | bl (n : Nat) (k : Bk)

def Bg.run (C : Cfg) (E : Env) : Bg → St → Option GRes
  | .o u k, st => o1 u fun v => (k v).run C E st
  | .p pg k, st => p1 pg st fun v st => (k v).run C E st
  | .c fu a k, st => c1 (callF C E fu a st) (fun v st => (k v).run C E st) (fun v st => some (.pan v st))
  | .q fu a k, st => c1 (pcallF E fu a st) (fun v st => (k v).run C E st) (fun v st => some (.pan v st))
  | .w u, st => pn1 u st (fun v st => some (.pan v st))
  | .d fu a k, st => df1 fu a st fun v st => (k v).run C E st
  | .r k, st => rc1 st fun v st => (k v).run C E st
  | .n, _ => none
  | .f vs, st => some (.ok vs st)

def Bk.run (C : Cfg) (E : Env) (rec : Rec') : Bk → St → Option Out
  | .o u k, st => o1 u fun v => (k v).run C E rec st
  | .p pg k, st => p1 pg st fun v st => (k v).run C E rec st
  | .c fu a k kp, st => c1 (callF C E fu a st) (fun v st => (k v).run C E rec st) (fun v st => (kp v).run C E rec st)
  | .q fu a k kp, st => c1 (pcallF E fu a st) (fun v st => (k v).run C E rec st) (fun v st => (kp v).run C E rec st)
  | .w u kp, st => pn1 u st fun v st => (kp v).run C E rec st
  | .d fu a k, st => df1 fu a st fun v st => (k v).run C E rec st
  | .r k, st => rc1 st fun v st => (k v).run C E rec st
  | .n, _ => none
  | .b u a1 a2, st => b1 u (a1.run C E rec st) (a2.run C E rec st)
  | .g want u a m k kp, st => g1 (w1 (wantV want u) (a.run C E st) (some (.ok (List.replicate m (.tup [])) st))) (fun vs st => (k vs).run C E rec st) (fun v st => (kp v).run C E rec st)
  | .j m xs, st => rec m xs st
  | .t keep rs, st => tell0 keep rs st
  | .l keep rs md, st => leaveDn E keep rs md st
  | .x u, st => pan0 u st
  | .y pg k, st => pl1 pg st fun v st lg => (k v lg).run C E rec st
  | .z fu a k, st => cl2 C E fu a st fun v st lg => (k v lg).run C E rec st
  | .ok pr logs k, st => bif okLogs pr logs then k.run C E rec st else none
  | .fl a1 a2, st => both ((a1 st.next).run C E rec st) ((a2 st.next).run C E rec st)
  | .bl m k, st => k.run C E rec (St.below m st)

section
variable {C : Cfg} {E E' : Env} {r r' : Rec'}

theorem bg_le (hE : EnvLe E E') : ∀ (b : Bg) (st : St), Le1 (b.run C E st) (b.run C E' st)
  | .o u k, st => o1_le fun v => bg_le hE (k v) st
  | .p pg k, st => p1_le fun v st => bg_le hE (k v) st
  | .c fu a k, st => call_le hE (fun v st => bg_le hE (k v) st) fun _ _ => Le1.refl _
  | .q fu a k, st => pcall_le hE (fun v st => bg_le hE (k v) st) fun _ _ => Le1.refl _
  | .w u, st => Le1.refl _
  | .d fu a k, st => df1_le fun v st => bg_le hE (k v) st
  | .r k, st => rc1_le fun v st => bg_le hE (k v) st
  | .n, st => Le1.refl _
  | .f vs, st => Le1.refl _

theorem bk_le (hE : EnvLe E E') (hr : ∀ k xs st, Le1 (r k xs st) (r' k xs st)) : ∀ (b : Bk) (st : St), Le1 (b.run C E r st) (b.run C E' r' st)
  | .o u k, st => o1_le fun v => bk_le hE hr (k v) st
  | .p pg k, st => p1_le fun v st => bk_le hE hr (k v) st
  | .c fu a k kp, st => call_le hE (fun v st => bk_le hE hr (k v) st) fun v st => bk_le hE hr (kp v) st
  | .q fu a k kp, st => pcall_le hE (fun v st => bk_le hE hr (k v) st) fun v st => bk_le hE hr (kp v) st
  | .w u kp, st => pn1_le fun v st => bk_le hE hr (kp v) st
  | .d fu a k, st => df1_le fun v st => bk_le hE hr (k v) st
  | .r k, st => rc1_le fun v st => bk_le hE hr (k v) st
  | .n, st => Le1.refl _
  | .b u a1 a2, st => b1_le (bk_le hE hr a1 st) (bk_le hE hr a2 st)
  | .g want u a m k kp, st => g1_le (w1_le (bg_le hE a st) (Le1.refl _)) (fun vs st => bk_le hE hr (k vs) st) fun v st => bk_le hE hr (kp v) st
  | .j m xs, st => hr m xs st
  | .t keep rs, st => Le1.refl _
  | .l keep rs md, st => leaveDn_le hE
  | .x u, st => Le1.refl _
  | .y pg k, st => pl1_le fun v st lg => bk_le hE hr (k v lg) st
  | .z fu a k, st => cl2_le hE fun v st lg => bk_le hE hr (k v lg) st
  | .ok pr logs k, st => bif_le (bk_le hE hr k st)
  | .fl a b, st => both_le1 (bk_le hE hr (a st.next) st) (bk_le hE hr (b st.next) st)
  | .bl m k, st => bk_le hE hr k _

end

abbrev ci (n : Int) : V := .d (.int .i64 n)
abbrev cf (f : FuncId) : V := .d (.fn (.func f) [] [])

/-- A block and the values it takes. -/
inductive Bf where
  | v (b : Bk)
  | l (f : V → Bf)

def Bf.app : Bf → List V → Option Bk
  | .v b, [] => some b
  | .l f, x :: xs => (f x).app xs
  | _, _ => none

def Bf.blk (bf : Bf) : Blk := fun C E rec xs st => match bf.app xs with
  | some b => b.run C E rec st
  | none => none

def f0 (b : Bk) : Bf := .v b
def f1 (b : V → Bk) : Bf := .l fun x => .v (b x)
def f2 (b : V → V → Bk) : Bf := .l fun x => f1 (b x)
def f3 (b : V → V → V → Bk) : Bf := .l fun x => f2 (b x)
def f4 (b : V → V → V → V → Bk) : Bf := .l fun x => f3 (b x)
def f5 (b : V → V → V → V → V → Bk) : Bf := .l fun x => f4 (b x)
def f6 (b : V → V → V → V → V → V → Bk) : Bf := .l fun x => f5 (b x)
def f7 (b : V → V → V → V → V → V → V → Bk) : Bf := .l fun x => f6 (b x)
def f8 (b : V → V → V → V → V → V → V → V → Bk) : Bf := .l fun x => f7 (b x)
def f9 (b : V → V → V → V → V → V → V → V → V → Bk) : Bf := .l fun x => f8 (b x)
def f10 (b : V → V → V → V → V → V → V → V → V → V → Bk) : Bf := .l fun x => f9 (b x)
def f11 (b : V → V → V → V → V → V → V → V → V → V → V → Bk) : Bf := .l fun x => f10 (b x)
def f12 (b : V → V → V → V → V → V → V → V → V → V → V → V → Bk) : Bf := .l fun x => f11 (b x)
def f13 (b : V → V → V → V → V → V → V → V → V → V → V → V → V → Bk) : Bf := .l fun x => f12 (b x)
def f14 (b : V → V → V → V → V → V → V → V → V → V → V → V → V → V → Bk) : Bf := .l fun x => f13 (b x)
def f15 (b : V → V → V → V → V → V → V → V → V → V → V → V → V → V → V → Bk) : Bf := .l fun x => f14 (b x)
def f16 (b : V → V → V → V → V → V → V → V → V → V → V → V → V → V → V → V → Bk) : Bf := .l fun x => f15 (b x)

/-- Where a region stands in a function's text: it, and what follows. -/
def todoAt (r : Nat) : CCode → List CItem → Option (List CItem)
  | .region id l gs d, k => bif Nat.beq id r then some (.code (.region id l gs d) :: k) else none
  | .seq a b, k => match todoAt r a (.code b :: k) with
    | some x => some x
    | none => todoAt r b k
  | .cond _ a b, k => match todoAt r a k with
    | some x => some x
    | none => todoAt r b k
  | .block id b, k => todoAt r b (.inBlock id :: k)
  | .loop b, k => todoAt r b (.inLoop b :: k)
  | _, _ => none

def nthN : List Nat → Nat → Nat
  | [], _ => 0
  | v :: l, n => Nat.casesOn (motive := fun _ => Nat) n v (fun n => nthN l n)

def ktOf (fn : CFn) (rs : List Nat) (k : Nat) : List CItem := Nat.casesOn (motive := fun _ => List CItem) k [.code fn.code] fun k => match todoAt (nthN rs k) fn.code [] with
  | some l => l
  | none => []

def stOf (fn : CFn) (rs : List Nat) (k : Nat) (xs : List V) : List V := Nat.casesOn (motive := fun _ => List V) k (xs ++ List.replicate (fn.ntmps - xs.length) (.tup [])) fun k => match isStart (ktOf fn rs (k + 1)) with
  | some l => spread fn.ntmps 0 l xs
  | none => []

def blks : List Bf → List Blk
  | [] => []
  | b :: l => b.blk :: blks l

def mkEnt (fn : CFn) (rs : List Nat) (bs : List Bf) : Ent := ⟨fn, ktOf fn rs, stOf fn rs, blks bs⟩

/-- A block's equation. -/
def Bf.ok (C : Cfg) (fn : CFn) (rs : List Nat) (k : Nat) : Bf → List V → Prop
  | .v b, acc => Nat.ble acc.length fn.ntmps = true ∧ ∀ E g st, b.run C E (fun k xs st => g (ktOf fn rs k) (stOf fn rs k xs) st) st = unroll C E fn g 400 true (ktOf fn rs k) (stOf fn rs k acc.reverse) st
  | .l f, acc => ∀ x, (f x).ok C fn rs k (x :: acc)

def LsOk (C : Cfg) (fn : CFn) (rs : List Nat) : Nat → List Bf → Prop
  | _, [] => True
  | k, b :: l => b.ok C fn rs k [] ∧ LsOk C fn rs (k + 1) l

theorem Bf.ok_app {C : Cfg} {fn : CFn} {rs : List Nat} {k : Nat} : ∀ {bf : Bf} {acc : List V} {xs : List V} {b : Bk}, bf.ok C fn rs k acc → bf.app xs = some b →
    Nat.ble (acc.reverse ++ xs).length fn.ntmps = true ∧ ∀ E g st, b.run C E (fun k xs st => g (ktOf fn rs k) (stOf fn rs k xs) st) st = unroll C E fn g 400 true (ktOf fn rs k) (stOf fn rs k (acc.reverse ++ xs)) st
  | .v b, acc, [], b', h, ha => by
    simp only [Bf.app, Option.some.injEq] at ha
    subst ha
    have h : Nat.ble acc.length fn.ntmps = true ∧ ∀ E g st, b.run C E (fun k xs st => g (ktOf fn rs k) (stOf fn rs k xs) st) st = unroll C E fn g 400 true (ktOf fn rs k) (stOf fn rs k acc.reverse) st := h
    rw [List.append_nil, List.length_reverse]
    exact h
  | .v b, acc, x :: xs, b', h, ha => by simp [Bf.app] at ha
  | .l f, acc, [], b', h, ha => by simp [Bf.app] at ha
  | .l f, acc, x :: xs, b', h, ha => by
    have := Bf.ok_app (bf := f x) (acc := x :: acc) (xs := xs) (h x) ha
    simpa using this

theorem LsOk.blks {C : Cfg} {fn : CFn} {rs : List Nat} {e : Ent} (h1 : e.fn = fn) (h2 : e.KT = ktOf fn rs) (h3 : e.ST = stOf fn rs) : ∀ {l : List Bf} {k : Nat}, LsOk C fn rs k l → BlksOk C e k (Go.AM.blks l)
  | [], _, _ => trivial
  | b :: l, k, h => by
    refine ⟨⟨?_, ?_⟩, LsOk.blks h1 h2 h3 h.2⟩
    · intro E g xs st o ho
      rw [h1, h2, h3]
      rw [h2, h3] at ho
      unfold Bf.blk at ho
      cases ha : b.app xs with
      | none => rw [ha] at ho; simp at ho
      | some b' =>
        rw [ha] at ho
        have := (Bf.ok_app h.1 ha).2 E g st
        simp only [List.reverse_nil, List.nil_append] at this
        rw [← this]
        exact ho
    · intro E E' r r' xs st hE hr
      unfold Bf.blk
      cases b.app xs with
      | none => exact Le1.refl _
      | some b' => exact bk_le hE hr b' st

theorem mkEnt_ok {C : Cfg} {fn : CFn} {rs : List Nat} {bs : List Bf} (h : LsOk C fn rs 0 bs) : EntOk C (mkEnt fn rs bs) := by
  refine ⟨LsOk.blks rfl rfl rfl h, rfl, ?_⟩
  intro E r xs st o ho
  refine ⟨?_, rfl⟩
  cases bs with
  | nil => simp [mkEnt, Go.AM.blks, nthB] at ho
  | cons b l =>
    change b.blk C E r xs st = some o at ho
    unfold Bf.blk at ho
    cases ha : b.app xs with
    | none => rw [ha] at ho; simp at ho
    | some b' =>
      have := (Bf.ok_app h.1 ha).1
      rw [List.reverse_nil, List.nil_append] at this
      exact this

/-- A function's made-ready text, out of the program. -/
def getC (x : Option CFn) : CFn := match x with
  | some c => c
  | none => ⟨0, [], false, false, .bad⟩

end Go.AM
