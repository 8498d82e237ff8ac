/- Which functions there are is as the document says: the card of ListKnowns holds: for every name and number, the listed tables being as the program's text lays them. (A part of the way there: Op12, Op13, Op14 and what follows.) -/
import Derived.Test.YtgfdikdjbnigeaaGreatDoorA00
import Derived.Laws.IdiomStrings
import Derived.Laws.Strings
import Derived.Laws.StructEq
import Derived.Laws.Tables
import Derived.Recover
import Derived.Orders
set_option linter.all false
set_option linter.deprecated false
namespace Go.AM
open Go

section
variable {P : Program}

theorem byteOf_rep {h : Array Obj} {F : Nat → Prop} {G : Gh} {v : V} {b : UInt8} {u : Value} (e : byteOfD v = some b) (r : RepV h F G v u) : ∃ n : Int, u = .int .u8 n ∧ UInt8.ofNat n.toNat = b := by
  unfold byteOfD at e
  split at e
  · rename_i n
    simp only [Option.some.injEq] at e
    cases r.inv_d
    exact ⟨n, rfl, e⟩
  · simp at e

theorem bytesOf_len : ∀ (l : List V) (b : List UInt8), bytesOfVs l = some b → b.length = l.length
  | [], b, h => by simp [bytesOfVs] at h; subst h; rfl
  | v :: l, b, h => by
    simp only [bytesOfVs] at h
    cases h1 : byteOfD v with
    | none => rw [h1] at h; simp at h
    | some x =>
      rw [h1] at h
      cases h2 : bytesOfVs l with
      | none => rw [h2] at h; simp at h
      | some r =>
        rw [h2] at h
        simp only [Option.some.injEq] at h
        subst h
        simp [bytesOf_len l r h2]

theorem bytesOf_get : ∀ (l : List V) (b : List UInt8), bytesOfVs l = some b → ∀ (i : Nat) (v : V) (x : UInt8), l[i]? = some v → b[i]? = some x → byteOfD v = some x
  | [], b, h => fun i v x h1 => by simp at h1
  | v :: l, b, h => by
    simp only [bytesOfVs] at h
    cases h1 : byteOfD v with
    | none => rw [h1] at h; simp at h
    | some x =>
      rw [h1] at h
      cases h2 : bytesOfVs l with
      | none => rw [h2] at h; simp at h
      | some r =>
        rw [h2] at h
        simp only [Option.some.injEq] at h
        subst h
        intro i v' x' q1 q2
        cases i with
        | zero => simp at q1 q2; subst q1; subst q2; exact h1
        | succ i => exact bytesOf_get l r h2 i v' x' (by simpa using q1) (by simpa using q2)

theorem bytesOf_cells {l : List V} {b : List UInt8} (h : bytesOfVs l = some b) : l.flatMap V.cells = l := by
  induction l generalizing b with
  | nil => rfl
  | cons v l ih =>
    simp only [bytesOfVs] at h
    cases h1 : byteOfD v with
    | none => rw [h1] at h; simp at h
    | some x =>
      rw [h1] at h
      cases h2 : bytesOfVs l with
      | none => rw [h2] at h; simp at h
      | some r =>
        have : v.cells = [v] := by
          unfold byteOfD at h1
          split at h1
          · rfl
          · simp at h1
        rw [List.flatMap_cons, this, ih h2]; rfl

/-- Cells that are bytes. -/
theorem bytes_nums {h : Array Obj} {F : Nat → Prop} {G : Gh} {l : List V} {b : List UInt8} (hb : bytesOfVs l = some b) {c : Array Value} (hs : c.size = l.length)
    (hc : ∀ (k : Nat) (v : V) (x : Value), l[k]? = some v → c[k]? = some x → RepV h F G v x) :
    ∃ ns : List Int, c = (ns.map (Value.int .u8)).toArray ∧ ns.foldl (fun r n => r.push (UInt8.ofNat n.toNat)) ByteArray.empty = ⟨b.toArray⟩ := by
  have hl := bytesOf_len l b hb
  obtain ⟨ns, h1, h2⟩ := choose_list b (fun i x n => c[i]? = some (.int .u8 n) ∧ UInt8.ofNat n.toNat = x) (by
    intro i x hx
    have hlt := lt_of_someL hx
    have hli : i < l.length := by omega
    have hbo := bytesOf_get l b hb i l[i] x (List.getElem?_eq_getElem hli) hx
    obtain ⟨n, e1, e2⟩ := byteOf_rep hbo (hc i l[i] (c[i]'(by omega)) (List.getElem?_eq_getElem hli) (by simp))
    exact ⟨n, by rw [← e1]; simp, e2⟩)
  refine ⟨ns, ?_, ?_⟩
  · apply Array.ext
    · simp [hs, h1, hl]
    · intro i h3 h4
      have hib : i < b.length := by simp at h4; omega
      have hin : i < ns.length := by omega
      have := (h2 i b[i] ns[i] (List.getElem?_eq_getElem hib) (List.getElem?_eq_getElem hin)).1
      rw [Array.getElem?_eq_getElem h3] at this
      simp only [Option.some.injEq] at this
      rw [this]; simp
  · have hm : ns.map (fun n => UInt8.ofNat n.toNat) = b := by
      apply List.ext_getElem
      · simp [h1]
      · intro i h3 h4
        have hin : i < ns.length := by simpa using h3
        have := (h2 i b[i] ns[i] (List.getElem?_eq_getElem h4) (List.getElem?_eq_getElem hin)).2
        simpa using this
    have hfold : ∀ (ns : List Int) (r : ByteArray), ns.foldl (fun r n => r.push (UInt8.ofNat n.toNat)) r = ⟨r.data ++ (ns.map (fun n => UInt8.ofNat n.toNat)).toArray⟩ := by
      intro ns
      induction ns with
      | nil => intro r; simp
      | cons n ns ih => intro r; simp only [List.foldl_cons, List.map_cons]; rw [ih]; simp [ByteArray.push]
    rw [hfold, hm]
    have he0 : ByteArray.empty.data = #[] := rfl
    rw [he0]; simp

theorem b2s_snd {w : World} {F : Nat → Prop} {G : Gh} {st st' : St} (hi : Inv P w F G st.rows st.next) {src dst e : TypeId} (hs : P.underlying src = some (.slice e)) (he : P.underlying e = some (.int .u8)) (hd : P.underlying dst = some .string)
    {x v : V} {ux : Value} (rx : RepV w.heap F G x ux) (hr : (convP .b2s x).run st = some (v, st')) : Post P w F G st (convert src dst ux) v st' := by
  have hsl : ∃ a l c, ux = .slice a l c ∧ (a = none → l = 0) := by
    cases x with
    | d x =>
      cases x with
      | snil => cases rx.inv_d; exact ⟨_, _, _, rfl, fun _ => rfl⟩
      | ro => cases rx.inv_d <;> exact ⟨_, _, _, rfl, fun h => by simp at h⟩
      | _ => simp [convP, elemsP, Pg.bind, Pg.run] at hr
    | sl => cases rx <;> exact ⟨_, _, _, rfl, fun h => by simp_all⟩
    | _ => simp [convP, elemsP, Pg.bind, Pg.run] at hr
  obtain ⟨a, l, cap, rfl, hl0⟩ := hsl
  have hr' : ((elemsP 1 x).bind fun l => match bytesOfVs l with
      | some b => .ret (.d (.str b))
      | none => .fail).run st = some (v, st') := by
    cases x with
    | d x =>
      cases x with
      | str => cases rx.inv_d
      | _ => exact hr
    | _ => exact hr
  obtain ⟨ys, st1, h1, h2⟩ := Pg.bind_some hr'
  obtain ⟨rfl, el⟩ := elems_snd hi (by omega) rx h1
  cases hb : bytesOfVs ys with
  | none => rw [hb] at h2; simp [Pg.run] at h2
  | some b =>
    rw [hb] at h2
    simp only [Pg.run, Option.some.injEq, Prod.mk.injEq] at h2
    obtain ⟨rfl, rfl⟩ := h2
    have hlen := el.len
    simp only [Builtin.lenOf, Sem.run_pure, Result.ok.injEq, and_true] at hlen
    obtain ⟨c, hc1, hc2, hc3⟩ := el.cells ys.length (Nat.le_refl _)
    rw [bytesOf_cells hb] at hc3
    obtain ⟨ns, hn1, hn2⟩ := bytes_nums hb (by rw [hc2]; omega) hc3
    refine Post.same hi (u := .string ⟨b.toArray⟩) ?_ (.d _ _ (.str b))
    rw [run_convert_bytes_string w src dst e a l cap hs he hd]
    cases a with
    | none =>
      have hy0 : ys = [] := by
        have := hl0 rfl
        subst this
        cases ys with
        | nil => rfl
        | cons => simp at hlen
      subst hy0
      simp only [bytesOfVs, Option.some.injEq] at hb
      subst hb
      simp [Conv.bytesToString]
      rfl
    | some a =>
      have hload : (loadCells a l).run P w = .ok (ns.map (Value.int .u8)).toArray w := by
        have := hc1 w rfl
        simp only [Builtin.firstCells] at this
        rw [← hn1, ← this]
        congr 1
        congr 1
        simp at hlen ⊢
        omega
      rw [run_bytesToString w a l cap ns hload, hn2]

theorem s2b_snd {w : World} {F : Nat → Prop} {G : Gh} {st st' : St} (hi : Inv P w F G st.rows st.next) {src dst e : TypeId} (hs : P.underlying src = some .string) (hd : P.underlying dst = some (.slice e)) (he : P.underlying e = some (.int .u8))
    (h1 : tySize P e = some 1) {x v : V} {ux : Value} (rx : RepV w.heap F G x ux) (hr : (convP (.s2b e) x).run st = some (v, st')) : Post P w F G st (convert src dst ux) v st' := by
  simp only [convP] at hr
  split at hr
  · rename_i s
    cases rx.inv_d
    simp only [Pg.run, Option.some.injEq, Prod.mk.injEq] at hr
    obtain ⟨rfl, rfl⟩ := hr
    have hge := grownCap_ge w s.length 0 e
    have hrun := run_bytes_of_string w src dst e ⟨s.toArray⟩ hs hd he
    have hsz : (⟨s.toArray⟩ : ByteArray).size = s.length := rfl
    rw [hsz] at hrun
    have hbs : (bytesRow ⟨s.toArray⟩ (grownCap w s.length 0 e)).size = grownCap w s.length 0 e := by
      simp [bytesRow, hsz]; omega
    obtain ⟨i1, i2, i3⟩ := new_cells (w' := w.drew.alloc (.cells (bytesRow ⟨s.toArray⟩ (grownCap w s.length 0 e)) e ((bytesRow ⟨s.toArray⟩ (grownCap w s.length 0 e)).size, (bytesRow ⟨s.toArray⟩ (grownCap w s.length 0 e)).size + 1)))
      hi h1 (by omega) (e := s.length + 2) (by omega) (s.map fun b => .d (.int .u8 b.toNat)) (bytesRow ⟨s.toArray⟩ (grownCap w s.length 0 e)) _ (grownCap w s.length 0 e) (by simpa using hge) (by omega) (.inl (Nat.le_refl _)) (fun h => by omega) rfl rfl rfl rfl
      (by intro x hx; obtain ⟨b, _, rfl⟩ := List.mem_map.1 hx; rfl)
      (by intro x hx y hy; obtain ⟨b, _, rfl⟩ := List.mem_map.1 hx; simp [V.cells, D.cells] at hy; subst hy; rfl)
      (by
        intro k v u q1 q2
        rw [flatMap_bytes, List.getElem?_map] at q1
        cases hk : s[k]? with
        | none => rw [hk] at q1; simp at q1
        | some b =>
          rw [hk] at q1
          simp only [Option.map_some, Option.some.injEq] at q1
          subst q1
          have hlt := lt_of_someL hk
          have : (bytesRow ⟨s.toArray⟩ (grownCap w s.length 0 e))[k]? = some (.int .u8 b.toNat) := by
            unfold bytesRow
            rw [Array.getElem?_append_left (by simpa using hlt)]
            simp [hk]
          rw [this] at q2
          simp only [Option.some.injEq] at q2
          subst q2
          exact .d _ _ (.int _ _))
    refine ⟨_, _, F, _, hrun, i1, i2, i3, ?_, rfl, rfl⟩
    have := RepV.sl (h := (w.drew.alloc (.cells (bytesRow ⟨s.toArray⟩ (grownCap w s.length 0 e)) e ((bytesRow ⟨s.toArray⟩ (grownCap w s.length 0 e)).size, (bytesRow ⟨s.toArray⟩ (grownCap w s.length 0 e)).size + 1))).heap) (F := F)
      (G := gset G st.next (s.length + 2) ⟨w.heap.size, 0, 1, grownCap w s.length 0 e⟩) st.next (s.length + 2) 0 s.length ⟨w.heap.size, 0, 1, grownCap w s.length 0 e⟩ ⟨w.heap.size, 0, none⟩ (gset_same _ _ _ _) (by omega) (by simpa using hge) (by simp)
    simpa using this
  · simp [Pg.run] at hr

end
end Go.AM
namespace Go.AM
open Go

section
variable {P : Program}

theorem rowAt_mono (fits : TypeId → Bool) (d : Nat) (e : TypeId) {c c' : Nat} (off n : Nat) (hc : c ≤ c') (h : rowAt P fits d e c off n = true) : rowAt P fits d e c' off n = true := by
  cases d with
  | zero => simp [rowAt] at h
  | succ d =>
    unfold rowAt at h ⊢
    simp only at h ⊢
    split
    · rename_i hz; simp [hz] at h
    · rename_i hz
      simp only [hz, if_false] at h
      rw [Bool.or_eq_true, Bool.and_eq_true, Bool.and_eq_true, Bool.and_eq_true] at h ⊢
      rcases h with ⟨⟨h1, h2⟩, h3⟩ | ⟨h1, h2⟩
      · exact .inl ⟨⟨h1, by simp at h2 ⊢; omega⟩, h3⟩
      · exact .inr ⟨by simp at h1 ⊢; omega, h2⟩

theorem liesAt_mono : ∀ (d : Nat) (e : TypeId) {c c' : Nat} (off : Nat) (u : TypeId) (n : Nat), c ≤ c' → liesAt P d e c off u n = true → liesAt P d e c' off u n = true
  | 0, _, _, _, _, _, _, _, h => by simp [liesAt] at h
  | d + 1, e, c, c', off, u, n, hc, h => by
    unfold liesAt at h ⊢
    rw [Bool.or_eq_true] at h ⊢
    rcases h with h | h
    · exact .inl (rowAt_mono _ _ _ _ _ hc h)
    · refine .inr ?_
      split
      · rename_i m u' hu
        simp only [hu] at h
        exact liesAt_mono d e off u' _ hc h
      · rename_i hu
        split at h
        · rename_i m u' hu'; exact absurd hu' (hu _ _)
        · exact h

theorem seen_same {w : World} {b o : Nat} {c : Array Value} {t : TypeId} {fr : Nat × Nat} (hb : w.heap[b]? = some (.cells c t fr)) : (Conv.seenAt ⟨b, o, none⟩).run P w = .ok ⟨b, o, none⟩ w := by
  have hsh : w.shape? b = some (t, c.size) := by unfold World.shape?; rw [hb]
  unfold Conv.seenAt viewAt
  simp [hsh]

theorem pout_snd {w : World} {F : Nat → Prop} {G : Gh} {st st' : St} (hi : Inv P w F G st.rows st.next) {src dst t : TypeId} {n : Nat} (hs : P.underlying src = some (.pointer t)) (hd : P.underlying dst = some .unsafePointer) (hn : tySize P t = some n) (h0 : n ≠ 0)
    {x v : V} {ux : Value} (rx : RepV w.heap F G x ux) (hr : (ptrOutP x).run st = some (v, st')) : Post P w F G st (convert src dst ux) v st' := by
  cases x with
  | d x =>
    cases x with
    | nilp =>
      simp only [ptrOutP, Pg.run, Option.some.injEq, Prod.mk.injEq] at hr
      obtain ⟨rfl, rfl⟩ := hr
      cases rx.inv_d
      refine Post.same hi (u := .pointer none) ?_ (.d _ _ .nilp)
      simp [convert, und_run hs, und_run hd, Conv.unsafePointer]
    | _ => simp [ptrOutP, Pg.run] at hr
  | ptr id e i off =>
    simp only [ptrOutP, Pg.run] at hr
    cases hf : find st.rows id with
    | none => rw [hf] at hr; simp at hr
    | some r =>
      rw [hf] at hr
      cases r with
      | cells e' t' xs =>
        simp only at hr
        cases hb : Nat.beq e e' with
        | false => rw [hb] at hr; simp [Pg.run] at hr
        | true =>
          rw [hb] at hr
          have q1 := Nat.eq_of_beq_eq_true hb
          subst q1
          simp only [cond_true] at hr
          cases hx : xs[i]? with
          | none => rw [hx] at hr; simp [Pg.run] at hr
          | some y =>
            rw [hx] at hr
            simp only at hr
            split at hr
            · rename_i hlt
              simp only [Pg.run, Option.some.injEq, Prod.mk.injEq] at hr
              obtain ⟨rfl, rfl⟩ := hr
              have r0 := rx
              cases rx with
              | ptr _ _ _ _ gb hg =>
                have hrow := hi.row id _ hf
                cases hrow with
                | nil => simp at hx
                | cells _ _ _ gb' c fr he hg' hb' ht h00 hcap hfit hfr hb1 hc =>
                  rw [hg] at hg'
                  simp only [Option.some.injEq] at hg'
                  subst hg'
                  have hl := hc.len y (List.mem_of_getElem? hx)
                  have hle : i * gb.es + gb.es ≤ xs.length * gb.es := mul_le_of_lt (lt_of_someL hx)
                  have hfit2 := hc.fit
                  have hsh : w.shape? gb.blk = some (t', c.size) := by unfold World.shape?; rw [hb']
                  refine Post.same hi ?_ r0
                  have hlt2 : ¬ (c.size ≤ gb.base + i * gb.es + off) := by omega
                  simp [convert, und_run hs, und_run hd, Conv.unsafePointer, seen_same hb', cellsIn, hsh, size_run hn, h0, hlt2]
            · simp [Pg.run] at hr
      | _ => simp [Pg.run] at hr
  | _ => simp [ptrOutP, Pg.run] at hr

theorem memP_spec {t o : Nat} {l : List (TypeId × Nat)} (h : memP t o l = true) : (t, o) ∈ l := by
  induction l with
  | nil => simp [memP] at h
  | cons a l ih =>
    obtain ⟨u, p⟩ := a
    simp only [memP, Bool.or_eq_true, Bool.and_eq_true] at h
    rcases h with ⟨h1, h2⟩ | h
    · rw [Nat.eq_of_beq_eq_true h1, Nat.eq_of_beq_eq_true h2]; simp
    · exact List.mem_cons_of_mem _ (ih h)

theorem pas_snd {w : World} {F : Nat → Prop} {G : Gh} {st st' : St} (hi : Inv P w F G st.rows st.next) {src dst u : TypeId} {ok : List (TypeId × Nat)} (hs : P.underlying src = some .unsafePointer) (hd : P.underlying dst = some (.pointer u))
    (hu : (tySize P u).isSome = true) (hok : ok.all (fun (t, o) => liesAt P P.depth t 1 o u 1) = true)
    {x v : V} {ux : Value} (rx : RepV w.heap F G x ux) (hr : (ptrAsP ok x).run st = some (v, st')) : Post P w F G st (convert src dst ux) v st' := by
  cases x with
  | d x =>
    cases x with
    | nilp =>
      simp only [ptrAsP, Pg.run, Option.some.injEq, Prod.mk.injEq] at hr
      obtain ⟨rfl, rfl⟩ := hr
      cases rx.inv_d
      refine Post.same hi (u := .pointer none) ?_ (.d _ _ .nilp)
      simp [convert, und_run hs, und_run hd, Conv.unsafePointer]
    | _ => simp [ptrAsP, Pg.run] at hr
  | ptr id e i off =>
    simp only [ptrAsP, Pg.run] at hr
    cases hf : find st.rows id with
    | none => rw [hf] at hr; simp at hr
    | some r =>
      rw [hf] at hr
      cases r with
      | cells e' t' xs =>
        simp only at hr
        cases hb : Nat.beq e e' && Nat.beq e 1 && Nat.beq i 0 && memP t' off ok with
        | false => rw [hb] at hr; simp [Pg.run] at hr
        | true =>
          rw [hb] at hr
          simp only [Bool.and_eq_true] at hb
          obtain ⟨⟨⟨q1, q2⟩, q3⟩, q4⟩ := hb
          have q1 := Nat.eq_of_beq_eq_true q1
          have q2 := Nat.eq_of_beq_eq_true q2
          have q3 := Nat.eq_of_beq_eq_true q3
          subst q1
          subst q2
          subst q3
          have q4 := memP_spec q4
          simp only [cond_true] at hr
          cases xs with
          | nil => simp [Pg.run] at hr
          | cons y ys =>
            simp only [Pg.run, Option.some.injEq, Prod.mk.injEq] at hr
            obtain ⟨rfl, rfl⟩ := hr
            have r0 := rx
            cases rx with
            | ptr _ _ _ _ gb hg =>
              have hrow := hi.row id _ hf
              cases hrow with
              | cells _ _ _ gb' c fr he hg' hb' ht h00 hcap hfit hfr hb1 hc =>
                rw [hg] at hg'
                simp only [Option.some.injEq] at hg'
                subst hg'
                have hb0 := (hb1 rfl).1
                have hfit2 := hc.fit
                have hsh : w.shape? gb.blk = some (t', c.size) := by unfold World.shape?; rw [hb']
                have hl : liesAt P P.depth t' 1 off u 1 = true := by
                  have := List.all_eq_true.1 hok _ q4
                  simpa using this
                have hce : P.cellsOf t' = gb.es := by
                  unfold tySize at ht
                  unfold Program.cellsOf
                  rw [ht]; rfl
                have hge : gb.es ≤ c.size := by
                  simp only [List.length_cons, Nat.add_mul] at hfit2
                  omega
                have h1 : 1 ≤ c.size / P.cellsOf t' := by rw [hce]; exact (Nat.le_div_iff_mul_le (by omega)).2 (by omega)
                have hl2 := liesAt_mono P.depth t' off u 1 h1 hl
                refine Post.same hi ?_ r0
                rw [hb0]
                have hva : (variablesAt ⟨gb.blk, off, none⟩ u 1).run P w = .ok true w := by
                  unfold variablesAt
                  simp [hsh, hl2]
                obtain ⟨m, hm⟩ := Option.isSome_iff_exists.1 hu
                simp [convert, und_run hs, und_run hd, Conv.unsafePointer, seen_same hb', size_run hm, hva]
      | _ => simp [Pg.run] at hr
  | _ => simp [ptrAsP, Pg.run] at hr

/-- Conversions. -/
theorem conv_snd {w : World} {F : Nat → Prop} {G : Gh} {st st' : St} (hi : Inv P w F G st.rows st.next) {h : Hint} {src dst : TypeId}
    {x v : V} {ux : Value} (rx : RepV w.heap F G x ux) (hr : (convP (cConv P h src dst) x).run st = some (v, st')) : Post P w F G st (convert src dst ux) v st' := by
  unfold cConv at hr
  split at hr
  · rename_i k0 k hs hd
    simp only [convP] at hr
    split at hr
    · rename_i k1 n
      simp only [Pg.run, Option.some.injEq, Prod.mk.injEq] at hr
      obtain ⟨rfl, rfl⟩ := hr
      cases rx.inv_d
      exact Post.same hi (u := .int k (k.wrap n)) (by simp [convert, und_run hs, und_run hd, Conv.intToInt]) (.d _ _ (.int _ _))
    · simp [Pg.run] at hr
  · rename_i k0 hs hd
    simp only [convP] at hr
    split at hr
    · rename_i k1 n
      simp only [Pg.run, Option.some.injEq, Prod.mk.injEq] at hr
      obtain ⟨rfl, rfl⟩ := hr
      cases rx.inv_d
      exact Post.same hi (u := .string (Utf8.encode n)) (by simp [convert, und_run hs, und_run hd, Conv.intToString]) (.d _ _ (.str _))
    · simp [Pg.run] at hr
  · rename_i hs hd
    simp only [convP] at hr
    split at hr
    · rename_i s
      simp only [Pg.run, Option.some.injEq, Prod.mk.injEq] at hr
      obtain ⟨rfl, rfl⟩ := hr
      cases rx.inv_d
      exact Post.same hi (u := .string ⟨s.toArray⟩) (by simp [convert, und_run hs, und_run hd]) (.d _ _ (.str _))
    · simp [Pg.run] at hr
  · rename_i e hs hd
    split at hr
    · rename_i he
      split at hr
      · rename_i h1
        exact s2b_snd hi hs hd he h1 rx hr
      · simp [convP, Pg.run] at hr
    · simp [convP, Pg.run] at hr
  · rename_i e hs hd
    split at hr
    · rename_i he
      exact b2s_snd hi hs he hd rx hr
    · simp [convP, Pg.run] at hr
  · rename_i t hs hd
    split at hr
    · rename_i n hn
      split at hr
      · simp [convP, Pg.run] at hr
      · rename_i h0
        exact pout_snd hi hs hd hn h0 rx hr
    · simp [convP, Pg.run] at hr
  · rename_i u hs hd
    split at hr
    · rename_i hok
      rw [Bool.and_eq_true] at hok
      exact pas_snd hi hs hd hok.2 hok.1 rx hr
    · simp [convP, Pg.run] at hr
  · simp [convP, Pg.run] at hr

end
end Go.AM
namespace Go.AM
open Go

section
variable {P : Program}

theorem run_loadBytesN (w : World) : ∀ (ns : List Int) (a : Addr) (acc : ByteArray), (∀ j n, ns[j]? = some n → w.cell? (a.add j) = some (.int .u8 n)) →
    (loadBytes a acc ns.length).run P w = .ok ⟨acc.data ++ (ns.map fun n => UInt8.ofNat n.toNat).toArray⟩ w
  | [], a, acc, _ => by simp [loadBytes]
  | x :: l, a, acc, h => by
    have h0 : w.cell? a = some (.int .u8 x) := by
      have := h 0 x rfl
      simpa [Addr.add] using this
    have ih := run_loadBytesN w l (a.add 1) (acc.push (UInt8.ofNat x.toNat)) (fun j y hy => by
      have := h (j + 1) y (by simpa using hy)
      have e : (a.add 1).add j = a.add (j + 1) := by
        unfold Addr.add
        by_cases hj : j = 0
        · subst hj; simp
        · simp [hj]; omega
      rw [e]; exact this)
    simp only [List.length_cons, loadBytes, Sem.run_bind, run_load, h0, Result.andThen]
    have e2 : x.toNat.toUInt8 = UInt8.ofNat x.toNat := rfl
    rw [e2, ih]
    congr 1
    apply ByteArray.ext
    simp [ByteArray.push]

theorem push_fold : ∀ (ns : List Int) (r : ByteArray), ns.foldl (fun r n => r.push (UInt8.ofNat n.toNat)) r = ⟨r.data ++ (ns.map (fun n => UInt8.ofNat n.toNat)).toArray⟩
  | [], r => by simp
  | n :: ns, r => by
    simp only [List.foldl_cons, List.map_cons]
    rw [push_fold ns]; simp [ByteArray.push]

theorem liesAt_bytesN {e : TypeId} (hc : P.cellsOf e = 1) (count off n : Nat) (hn : off + n ≤ count) : liesAt P P.depth e count off e n = true := by
  have hd : P.depth = (2 * (P.types.size + Made.depth) + 1) + 1 := rfl
  rw [hd]
  simp only [liesAt, Bool.or_eq_true]
  left
  rw [hd]
  simp [rowAt, hc, hn, sameLayout, Nat.mod_one]

theorem freeze_blk (w : World) (b o n : Nat) (c : Array Value) (t : TypeId) (fr : Nat × Nat) (hb : w.heap[b]? = some (.cells c t fr)) : ∃ fr', w.freeze ⟨b, o, none⟩ n = setBlk w b (.cells c t fr') := by
  unfold World.freeze
  split
  · exact ⟨fr, (setBlk_self w b _ hb).symm⟩
  · refine ⟨if fr.1 == fr.2 then (o, o + n) else (min fr.1 o, max fr.2 (o + n)), ?_⟩
    unfold setBlk
    congr 1
    apply Array.ext
    · simp
    · intro i h1 h2
      have hb' := lt_of_some hb
      have hbe : w.heap[b] = .cells c t fr := by
        rw [Array.getElem?_eq_getElem hb'] at hb
        exact Option.some.inj hb
      rw [Array.getElem_modify, Array.getElem_setIfInBounds]
      by_cases h : b = i
      · subst h
        simp [hbe]
      · simp [h]
      · simpa using h1

theorem freeze_part (w : World) (b o n : Nat) (c : Array Value) (t : TypeId) (fr : Nat × Nat) (hb : w.heap[b]? = some (.cells c t fr)) (hn : 0 < n) :
    w.freeze ⟨b, o, none⟩ n = setBlk w b (.cells c t (if fr.1 == fr.2 then (o, o + n) else (min fr.1 o, max fr.2 (o + n)))) := by
  unfold World.freeze
  rw [if_neg (by omega)]
  unfold setBlk
  congr 1
  apply Array.ext
  · simp
  · intro i h1 h2
    have hb' := lt_of_some hb
    have hbe : w.heap[b] = .cells c t fr := by
      rw [Array.getElem?_eq_getElem hb'] at hb
      exact Option.some.inj hb
    rw [Array.getElem_modify, Array.getElem_setIfInBounds]
    by_cases h : b = i
    · subst h
      simp [hbe]
    · simp [h]
    · simpa using h1

/-- The text of a row's beginning. -/
theorem ustr_part {w : World} {F : Nat → Prop} {G : Gh} {st : St} (hi : Inv P w F G st.rows st.next) {ts : Array TypeId} {t0 t : TypeId} (ht0 : ts[0]? = some t0) (hp : P.underlying t0 = some (.pointer t)) (ty : TypeId)
    {id e kk : Nat} {r : Row} {xs : List V} {gb : GB} {c : Array Value} {fr : Nat × Nat} {m : Int} {k : IntKind} {bs : List UInt8} (hf : find st.rows id = some r) (hown : ownB G id r = some gb.blk)
    (he : e ≠ 0) (hg : G id e = some gb) (hb' : w.heap[gb.blk]? = some (.cells c t fr)) (ht : tySize P t = some 1) (hes : gb.es = 1) (hcap : xs.length ≤ gb.cap) (hfit : gb.base + gb.cap * gb.es ≤ c.size)
    (hfr : fr.1 = fr.2 ∨ fr.2 ≤ gb.base + kk * gb.es) (hc : CellsAt w.heap F G gb.base gb.es xs c) (hm : 0 < m) (hm2 : ¬ 9223372036854775807 < m) (hle : m.toNat ≤ xs.length) (hbs : bytesOfVs (xs.take m.toNat) = some bs) :
    Post P w F G st (Builtin.unsafeString_ ts ty #[.pointer (some ⟨gb.blk, gb.base + 0 * gb.es + 0, none⟩), .int k m]) (.d (.str bs)) { st with rows := put st.rows id (.part e t (max kk m.toNat) xs) } := by
  have hce : P.cellsOf t = 1 := by
    unfold tySize at ht
    unfold Program.cellsOf
    rw [ht]; rfl
  have hmax : IntKind.i64.max = 9223372036854775807 := rfl
  have hsub := sub_cells hc 0 m.toNat (by omega)
  simp only [List.drop_zero, Nat.zero_mul, Nat.add_zero] at hsub
  have hfit2 := hsub.fit
  have hlen : (xs.take m.toNat).length = m.toNat := by simp; omega
  obtain ⟨ns, hns, hfold⟩ := bytes_nums hbs (c := c.extract gb.base (gb.base + m.toNat)) (by rw [hlen]; rw [hlen, hes] at hfit2; simp; omega)
    (fun k v x h1 h2 => by
      rw [Array.getElem?_extract] at h2
      split at h2
      · refine hsub.rep k v x (by rw [bytesOf_cells hbs]; exact h1) ?_
        exact h2
      · simp at h2)
  have hnl : ns.length = m.toNat := by
    have := congrArg Array.size hns
    rw [hlen, hes] at hfit2
    simp at this; omega
  have hcell : ∀ j n, ns[j]? = some n → w.cell? ((⟨gb.blk, gb.base + 0 * gb.es + 0, none⟩ : Addr).add j) = some (.int .u8 n) := by
    intro j n hj
    have hlt := lt_of_someL hj
    rw [addr_add]
    have h1 : (c.extract gb.base (gb.base + m.toNat))[j]? = some (.int .u8 n) := by
      rw [hns]; simp [hj]
    rw [Array.getElem?_extract] at h1
    split at h1
    · unfold World.cell?
      simp [hb']
      exact h1
    · simp at h1
  have hload := run_loadBytesN (P := P) w ns _ .empty hcell
  have hlies := liesAt_bytesN (P := P) hce (c.size / P.cellsOf t) (gb.base + 0 * gb.es + 0) m.toNat (by
    rw [hlen, hes] at hfit2
    rw [hce]; simp; omega)
  have hsh : w.shape? gb.blk = some (t, c.size) := by unfold World.shape?; rw [hb']
  have hfz := freeze_part w gb.blk (gb.base + 0 * gb.es + 0) m.toNat c t fr hb' (by omega)
  generalize hfr' : (if fr.1 == fr.2 then (gb.base + 0 * gb.es + 0, gb.base + 0 * gb.es + 0 + m.toNat) else (min fr.1 (gb.base + 0 * gb.es + 0), max fr.2 (gb.base + 0 * gb.es + 0 + m.toNat))) = fr' at hfz
  have hfr2 : fr'.2 ≤ gb.base + max kk m.toNat * gb.es := by
    rw [← hfr', hes]
    split
    · simp; omega
    · rename_i hne
      have : fr.1 ≠ fr.2 := by simpa using hne
      rcases hfr with h | h
      · exact absurd h this
      · rw [hes] at h; simp; omega
  have hne : ¬ (m < 0) := by omega
  have hn0 : ¬ (m = 0) := by omega
  have hrun : (Builtin.unsafeString_ ts ty #[.pointer (some ⟨gb.blk, gb.base + 0 * gb.es + 0, none⟩), .int k m]).run P w = .ok (.string ⟨bs.toArray⟩) (setBlk w gb.blk (.cells c t fr')) := by
    change Sem.run P (asInt (.int k m) >>= _) w = _
    have hva : (variablesAt ⟨gb.blk, gb.base + 0 * gb.es + 0, none⟩ t m.toNat).run P w = .ok true w := by
      unfold variablesAt
      simp only [Sem.run_bind, run_program, Result.andThen_ok, run_shape, hsh, Sem.run_pure, hlies]
    rw [hnl] at hload
    simp only [asInt, asIntOf, Sem.run_bind, Sem.run_pure, Result.andThen_ok, ht0, hmax, hne, hn0, hm2, if_false, elemOf, und_run hp, hva, if_true, hload, run_freeze, hfz]
    rw [← hfold, push_fold]
  have hblt := lt_of_some hb'
  have howns : owns st.rows G gb.blk := ⟨id, _, hf, hown⟩
  have hk : Keeps w.heap (setBlk w gb.blk (.cells c t fr')).heap F F G G :=
    ⟨fun _ h => h, fun b hb2 => by rw [setBlk_get _ _ _ hblt, if_neg (fun h => hi.nf b ⟨id, _, hf, by rw [hown, h]⟩ hb2)], fun _ _ _ h => h⟩
  obtain ⟨i1, i2, i3⟩ := hi.step1 (w' := setBlk w gb.blk (.cells c t fr')) (F' := F) (G' := G) hf (r' := .part e t (max kk m.toNat) xs) (by rw [setBlk_size]; exact Nat.le_refl _)
    (fun b _ hb2 => by rw [setBlk_get _ _ _ hblt, if_neg (fun h => hb2 (by rw [hown, h]))]) rfl rfl rfl (fun _ h => h)
    (fun b hb' => .inl hb') (fun _ _ h => h) (fun _ _ _ => rfl)
    (.part e t _ xs gb c fr' he hg (by rw [setBlk_get _ _ _ hblt, if_pos rfl]) (by rw [ht, hes]) (by omega) hcap hfit hfr2 (hc.mono hk)) (by
      intro b hb'
      simp [ownB, he, hg] at hb'
      subst hb'
      exact .inl ⟨hown, hi.nf _ howns⟩) (by intro e1 t1 xs1 h; simp at h)
  exact ⟨_, _, _, G, hrun, i1, i2, i3, .d _ _ (.str bs), rfl, rfl⟩

theorem ustr_snd {w : World} {F : Nat → Prop} {G : Gh} {st st' : St} (hi : Inv P w F G st.rows st.next) {ts : Array TypeId} {t0 u : TypeId} (ht0 : ts[0]? = some t0) (hp : P.underlying t0 = some (.pointer u)) (hu : tySize P u = some 1) (ty : TypeId)
    {p n v : V} {up un : Value} (rp : RepV w.heap F G p up) (rn : RepV w.heap F G n un) (hr : (ustrP u p n).run st = some (v, st')) : Post P w F G st (Builtin.unsafeString_ ts ty #[up, un]) v st' := by
  have hce : P.cellsOf u = 1 := by
    unfold tySize at hu
    unfold Program.cellsOf
    rw [hu]; rfl
  unfold ustrP at hr
  split at hr
  · rename_i kk m hn
    have hun : ∃ k, un = .int k m := by
      unfold vInt at hn
      split at hn
      · simp only [Option.some.injEq, Prod.mk.injEq] at hn
        obtain ⟨rfl, rfl⟩ := hn
        cases rn.inv_d
        exact ⟨_, rfl⟩
      · simp at hn
    obtain ⟨k, rfl⟩ := hun
    have hmax : IntKind.i64.max = 9223372036854775807 := rfl
    unfold unsafeStringP at hr
    split at hr
    · split at hr
      · rename_i h0
        subst h0
        simp only [Pg.run, Option.some.injEq, Prod.mk.injEq] at hr
        obtain ⟨rfl, rfl⟩ := hr
        cases rp.inv_d
        refine Post.same hi (u := .string .empty) ?_ (.d _ _ (.str []))
        change Sem.run P (asInt (.int k 0) >>= _) w = _
        simp [asInt, asIntOf, ht0, hmax]
      · simp [Pg.run] at hr
    · rename_i id e i
      split at hr
      · simp [Pg.run] at hr
      · rename_i hpos
        simp only [Pg.run] at hr
        cases hf : find st.rows id with
        | none => rw [hf] at hr; simp at hr
        | some r =>
          rw [hf] at hr
          cases r with
          | cells e' t xs =>
            simp only at hr
            cases hb : Nat.beq e e' && Nat.beq t u with
            | false => rw [hb] at hr; simp [Pg.run] at hr
            | true =>
              rw [hb] at hr
              simp only [Bool.and_eq_true] at hb
              have q1 := Nat.eq_of_beq_eq_true hb.1
              have q2 := Nat.eq_of_beq_eq_true hb.2
              subst q1
              subst q2
              simp only [cond_true] at hr
              split at hr
              · rename_i hle
                cases hq : (Nat.beq e 1 && Nat.beq i 0) with
                | true =>
                  rw [hq] at hr
                  simp only [Bool.and_eq_true] at hq
                  have q1 := Nat.eq_of_beq_eq_true hq.1
                  have q2 := Nat.eq_of_beq_eq_true hq.2
                  subst q1
                  subst q2
                  simp only [cond_true] at hr
                  cases hbs : bytesOfVs (xs.take m.toNat) with
                  | none => rw [hbs] at hr; simp [Pg.run] at hr
                  | some bs =>
                    rw [hbs] at hr
                    simp only [Pg.run, Option.some.injEq, Prod.mk.injEq] at hr
                    obtain ⟨rfl, rfl⟩ := hr
                    cases rp with
                    | ptr _ _ _ _ gb hg =>
                      have hrow := hi.row id _ hf
                      cases hrow with
                      | cells _ _ _ gb' c fr he hg' hb' ht h00 hcap hfit hfr hb1 hc =>
                        rw [hg] at hg'
                        simp only [Option.some.injEq] at hg'
                        subst hg'
                        have hes : gb.es = 1 := by rw [hu] at ht; simpa using ht.symm
                        have := ustr_part hi (kk := 0) (k := k) ht0 hp ty hf (by simp [ownB, hg]) he hg hb' hu hes hcap hfit (.inl (hb1 rfl).2) hc (by omega) (by omega) (by omega) hbs
                        simpa using this
                | false =>
                rw [hq] at hr
                simp only [cond_false] at hr
                cases hd : allD xs with
                | none => rw [hd] at hr; simp [Pg.run] at hr
                | some ds =>
                  rw [hd] at hr
                  cases hbs : bytesOfVs ((xs.drop i).take m.toNat) with
                  | none => rw [hbs] at hr; simp [Pg.run] at hr
                  | some bs =>
                    rw [hbs] at hr
                    simp only [Pg.run, Option.some.injEq, Prod.mk.injEq] at hr
                    obtain ⟨rfl, rfl⟩ := hr
                    cases rp with
                    | ptr _ _ _ _ gb hg =>
                      have hrow := hi.row id _ hf
                      cases hrow with
                      | nil => simp at hle; omega
                      | cells _ _ _ gb' c fr he hg' hb' ht h00 hcap hfit hfr hb1 hc =>
                        rw [hg] at hg'
                        simp only [Option.some.injEq] at hg'
                        subst hg'
                        have hes : gb.es = 1 := by rw [hu] at ht; simpa using ht.symm
                        have hsub := sub_cells hc i m.toNat hle
                        have hfit2 := hsub.fit
                        have hlen : ((xs.drop i).take m.toNat).length = m.toNat := by simp; omega
                        obtain ⟨ns, hns, hfold⟩ := bytes_nums hbs (c := c.extract (gb.base + i) (gb.base + i + m.toNat)) (by rw [hlen]; rw [hlen, hes] at hfit2; simp; omega)
                          (fun k v x h1 h2 => by
                            rw [Array.getElem?_extract] at h2
                            split at h2
                            · refine hsub.rep k v x (by rw [bytesOf_cells hbs]; exact h1) ?_
                              rw [hes, Nat.mul_one]; exact h2
                            · simp at h2)
                        have hnl : ns.length = m.toNat := by
                          have := congrArg Array.size hns
                          rw [hlen, hes] at hfit2
                          simp at this; omega
                        have hcell : ∀ j n, ns[j]? = some n → w.cell? ((⟨gb.blk, gb.base + i * gb.es + 0, none⟩ : Addr).add j) = some (.int .u8 n) := by
                          intro j n hj
                          have hlt := lt_of_someL hj
                          rw [addr_add]
                          have h1 : (c.extract (gb.base + i) (gb.base + i + m.toNat))[j]? = some (.int .u8 n) := by
                            rw [hns]; simp [hj]
                          rw [Array.getElem?_extract] at h1
                          split at h1
                          · unfold World.cell?
                            rw [hes]
                            simp [hb']
                            exact h1
                          · simp at h1
                        have hload := run_loadBytesN (P := P) w ns _ .empty hcell
                        have hlies := liesAt_bytesN (P := P) hce (c.size / P.cellsOf t) (gb.base + i * gb.es + 0) m.toNat (by
                          rw [hlen, hes] at hfit2
                          rw [hce, hes]; simp; omega)
                        have hsh : w.shape? gb.blk = some (t, c.size) := by unfold World.shape?; rw [hb']
                        obtain ⟨fr', hfz⟩ := freeze_blk w gb.blk (gb.base + i * gb.es + 0) m.toNat c t fr hb'
                        have hne : ¬ (m < 0) := by omega
                        have hn0 : ¬ (m = 0) := by omega
                        have hn63 : ¬ (9223372036854775807 < m) := by omega
                        have hrun : (Builtin.unsafeString_ ts ty #[.pointer (some ⟨gb.blk, gb.base + i * gb.es + 0, none⟩), .int k m]).run P w = .ok (.string ⟨bs.toArray⟩) (setBlk w gb.blk (.cells c t fr')) := by
                          change Sem.run P (asInt (.int k m) >>= _) w = _
                          have hva : (variablesAt ⟨gb.blk, gb.base + i * gb.es + 0, none⟩ t m.toNat).run P w = .ok true w := by
                            unfold variablesAt
                            simp only [Sem.run_bind, run_program, Result.andThen_ok, run_shape, hsh, Sem.run_pure, hlies]
                          rw [hnl] at hload
                          simp only [asInt, asIntOf, Sem.run_bind, Sem.run_pure, Result.andThen_ok, ht0, hmax, hne, hn0, hn63, if_false, elemOf, und_run hp, hva, if_true, hload, run_freeze, hfz]
                          rw [← hfold, push_fold]
                        have hown : ownB G id (.cells e t xs) = some gb.blk := by simp [ownB, he, hg]
                        have hblt := lt_of_some hb'
                        have hxs := allD_eq hd
                        subst hxs
                        have hk : Keeps w.heap (setBlk w gb.blk (.cells c t fr')).heap F (fun b => F b ∨ b = gb.blk) G G :=
                          ⟨fun _ h => .inl h, fun b hb2 => by rw [setBlk_get _ _ _ hblt, if_neg (fun h => hi.nf b ⟨id, _, hf, by rw [hown, h]⟩ hb2)], fun _ _ _ h => h⟩
                        obtain ⟨i1, i2, i3⟩ := hi.step1 (w' := setBlk w gb.blk (.cells c t fr')) (F' := fun b => F b ∨ b = gb.blk) (G' := G) hf (r' := .fz e t ds) (by rw [setBlk_size]; exact Nat.le_refl _)
                          (fun b _ hb2 => by rw [setBlk_get _ _ _ hblt, if_neg (fun h => hb2 (by rw [hown, h]))]) rfl rfl rfl (fun _ h => .inl h)
                          (fun b hb' => hb'.elim .inl (fun h => .inr (by rw [hown, h]))) (fun _ _ h => h) (fun _ _ _ => rfl)
                          (.fz e t ds gb c fr' he hg (.inr rfl) (by rw [setBlk_get _ _ _ hblt, if_pos rfl]) ht h00 (by simpa using hcap) (hc.toD.mono hk)) (by intro b hb'; simp [ownB] at hb') (by intro e1 t1 xs1 h; simp at h)
                        exact ⟨_, _, _, G, hrun, i1, i2, i3, .d _ _ (.str bs), rfl, rfl⟩
              · simp [Pg.run] at hr
          | part e' t kk xs =>
            simp only at hr
            cases hb : (Nat.beq e e' && (Nat.beq t u && Nat.beq i 0)) with
            | false => rw [hb] at hr; simp [Pg.run] at hr
            | true =>
              rw [hb] at hr
              simp only [Bool.and_eq_true] at hb
              have q1 := Nat.eq_of_beq_eq_true hb.1
              have q2 := Nat.eq_of_beq_eq_true hb.2.1
              have q3 := Nat.eq_of_beq_eq_true hb.2.2
              subst q1
              subst q2
              subst q3
              simp only [cond_true] at hr
              split at hr
              · rename_i hle
                cases hbs : bytesOfVs (xs.take m.toNat) with
                | none => rw [hbs] at hr; simp [Pg.run] at hr
                | some bs =>
                  rw [hbs] at hr
                  simp only [Pg.run, Option.some.injEq, Prod.mk.injEq] at hr
                  obtain ⟨rfl, rfl⟩ := hr
                  cases rp with
                  | ptr _ _ _ _ gb hg =>
                    have hrow := hi.row id _ hf
                    cases hrow with
                    | part _ _ _ _ gb' c fr he hg' hb' ht h00 hcap hfit hfr hc =>
                      rw [hg] at hg'
                      simp only [Option.some.injEq] at hg'
                      subst hg'
                      have hes : gb.es = 1 := by rw [hu] at ht; simpa using ht.symm
                      exact ustr_part hi (k := k) ht0 hp ty hf (by simp [ownB, he, hg]) he hg hb' hu hes hcap hfit (.inr hfr) hc (by omega) (by omega) hle hbs
              · simp [Pg.run] at hr
          | _ => simp [Pg.run] at hr
    · simp [Pg.run] at hr
  · simp [Pg.run] at hr

theorem sldata_snd {w : World} {F : Nat → Prop} {G : Gh} {ts : Array TypeId} {ty : TypeId} {x v : V} {ux : Value} (rx : RepV w.heap F G x ux) (hr : vSliceData x = some v) :
    ∃ u, (Builtin.unsafeSliceData_ ts ty #[ux]).run P w = .ok u w ∧ RepV w.heap F G v u := by
  unfold vSliceData at hr
  split at hr
  · simp only [Option.some.injEq] at hr
    subst hr
    cases rx.inv_d
    exact ⟨.pointer none, rfl, .d _ _ .nilp⟩
  · rename_i id e off len
    cases he : Nat.beq e 0 with
    | true =>
      rw [he] at hr
      have := Nat.eq_of_beq_eq_true he
      subst this
      simp only [cond_true, Option.some.injEq] at hr
      subst hr
      cases rx with
      | sl0 => exact ⟨.pointer none, rfl, .d _ _ .nilp⟩
      | sl _ _ _ _ _ _ _ he0 => exact absurd rfl he0
    | false =>
      rw [he] at hr
      simp only [cond_false] at hr
      cases hl : Nat.beq len 0 with
      | true => rw [hl] at hr; simp at hr
      | false =>
        rw [hl] at hr
        simp only [cond_false, Option.some.injEq] at hr
        subst hr
        have hl0 : len ≠ 0 := by intro h; subst h; simp at hl
        cases rx with
        | sl0 => simp at he
        | sl _ _ _ _ gb a hg he0 hfit ha =>
          have hne : gb.cap - off ≠ 0 := by omega
          have := ha hne
          subst this
          refine ⟨.pointer (some ⟨gb.blk, gb.base + off * gb.es, none⟩), ?_, ?_⟩
          · obtain ⟨k, hk⟩ : ∃ k, gb.cap - off = k + 1 := ⟨gb.cap - off - 1, by omega⟩
            rw [hk]; rfl
          · exact RepV.ptr (h := w.heap) (F := F) (G := G) id e off 0 gb hg
  · simp at hr

end
end Go.AM
namespace Go.AM
open Go

section
variable {P : Program}

theorem clear_snd {w : World} {F : Nat → Prop} {G : Gh} {st st' : St} (hi : Inv P w F G st.rows st.next) {ts : Array TypeId} {t0 e : TypeId} {n : Nat} (ht0 : ts[0]? = some t0) (ht : P.underlying t0 = some (.slice e)) (hn : tySize P e = some n)
    (h0 : n ≠ 0) {z : D} (hz : tyZero P e = some z) (hzl : z.cells.length = n) (ty : TypeId) {x v : V} {ux : Value} (rx : RepV w.heap F G x ux) (hr : (clearP e z x).run st = some (v, st')) :
    Post P w F G st (Builtin.clear_ ts ty #[ux]) v st' := by
  have zero : ∀ a c, (Builtin.clear_ ts ty #[.slice a 0 c]).run P w = .ok (.tuple #[]) w := by
    intro a c
    unfold Builtin.clear_
    cases a <;> simp [ht0, und_run ht]
  have rt : ∀ h, RepV h F G (.tup []) (.tuple #[]) := fun h => RepV.tup [] #[] rfl (fun i v u h => by simp at h)
  unfold clearP at hr
  split at hr
  · simp only [Pg.run, Option.some.injEq, Prod.mk.injEq] at hr
    obtain ⟨rfl, rfl⟩ := hr
    cases rx.inv_d
    exact Post.same hi (zero _ _) (rt _)
  · rename_i id e1 off len
    simp only [Pg.run] at hr
    cases hf : find st.rows id with
    | none => rw [hf] at hr; simp at hr
    | some r =>
      rw [hf] at hr
      have hrow := hi.row id r hf
      cases r with
      | cells e2 t xs =>
        simp only at hr
        cases hb : Nat.beq e1 e2 && Nat.beq e t with
        | false => rw [hb] at hr; simp [Pg.run] at hr
        | true =>
          rw [hb] at hr
          simp only [Bool.and_eq_true] at hb
          have q1 := Nat.eq_of_beq_eq_true hb.1
          have q2 := Nat.eq_of_beq_eq_true hb.2
          subst q1
          subst q2
          simp only [cond_true] at hr
          split at hr
          · rename_i hin
            split at hr
            · rename_i hl0
              subst hl0
              simp only [Pg.run, Option.some.injEq, Prod.mk.injEq] at hr
              obtain ⟨rfl, rfl⟩ := hr
              cases rx with
              | sl0 => exact Post.same hi (zero _ _) (rt _)
              | sl => exact Post.same hi (zero _ _) (rt _)
            · rename_i hl0
              simp only [Pg.run, Option.some.injEq, Prod.mk.injEq] at hr
              obtain ⟨rfl, rfl⟩ := hr
              cases rx with
              | sl0 => exact absurd rfl hl0
              | sl _ _ _ _ gb a hg he hfit ha =>
                cases hrow with
                | nil => exact absurd rfl he
                | cells _ _ _ gb' c fr he0 hg' hb' ht' h00 hcap hfit' hfr hb1 hc =>
                  rw [hg'] at hg
                  simp only [Option.some.injEq] at hg
                  subst hg
                  have ha' := ha (by omega)
                  subst ha'
                  rw [hn] at ht'
                  simp only [Option.some.injEq] at ht'
                  obtain ⟨zv, hzr, hzrep⟩ := zero_run hz w
                  have hzds := (hzrep w.heap F).cells (by intro h; rw [h] at hzl; simp at hzl; omega)
                  have hzcell := D.cells_isCell (hzrep w.heap F)
                  have hzc : zv.cells.size = n := by rw [hzds.1, hzl]
                  have hclen : ∀ y ∈ List.replicate len (V.d z), y.cells.length = n := by
                    intro x hx; rw [List.eq_of_mem_replicate hx]; simpa [V.cells] using hzl
                  have hccell : ∀ y ∈ List.replicate len (V.d z), ∀ q ∈ y.cells, q.isCell = true := by
                    intro x hx y hy
                    rw [List.eq_of_mem_replicate hx] at hy
                    simp only [V.cells, List.mem_map] at hy
                    obtain ⟨q, hq, rfl⟩ := hy
                    exact hzcell q hq
                  have hcs : (Builtin.zeroCells zv.cells len).size = len * n := by simp [Builtin.zeroCells, hzc]
                  have hcrep : ∀ (k : Nat) (v : V) (x : Value), ((List.replicate len (V.d z)).flatMap V.cells)[k]? = some v → (Builtin.zeroCells zv.cells len)[k]? = some x → RepV w.heap F G v x := by
                    intro k v u h1 h2
                    unfold Builtin.zeroCells at h2
                    exact rep_zero (m := len) (n := len) h0 hzl hzds k v u h1 (by rw [hzc] at h2 ⊢; exact h2)
                  have hone : ∀ u ∈ (Builtin.zeroCells zv.cells len).toList, u.oneCell' = true := by
                    intro u hu
                    obtain ⟨k, hk, rfl⟩ := List.getElem_of_mem hu
                    have hfl := flat_len V.cells n _ hclen
                    have hk2 : k < ((List.replicate len (V.d z)).flatMap V.cells).length := by rw [hfl]; simp at hk ⊢; rw [hcs] at hk; exact hk
                    obtain ⟨y, hy, hzz⟩ := List.mem_flatMap.1 (List.getElem_mem hk2)
                    exact (hcrep k _ _ (List.getElem?_eq_getElem hk2) (by simp at hk; simp [hk])).cellV (hccell y hy _ hzz)
                  have hpe : (off + len) * n ≤ gb'.cap * n := Nat.mul_le_mul_right _ (by omega)
                  have hsp : (off + len) * n = off * n + len * n := Nat.add_mul _ _ _
                  rw [← ht'] at hfit'
                  have hst := run_store_blk P w gb'.blk (gb'.base + off * n) c e fr (Builtin.zeroCells zv.cells len).toList hb' (by simp [hcs]; omega) (fun j a b => hfr j (by omega) (by simp [hcs] at b; rw [← ht']; omega)) hone
                  have hrun : (Builtin.clear_ ts ty #[.slice (some ⟨gb'.blk, gb'.base + off * gb'.es, none⟩) len (gb'.cap - off)]).run P w = .ok (.tuple #[]) (setBlk w gb'.blk (.cells (patch c (gb'.base + off * n) (Builtin.zeroCells zv.cells len).toList) e fr)) := by
                    obtain ⟨l', rfl⟩ : ∃ l', len = l' + 1 := ⟨len - 1, by omega⟩
                    unfold Builtin.clear_
                    rw [← ht']
                    simp [ht0, und_run ht, hzr, hst]
                  have hover := cells_over hc off (by omega) (ys := List.replicate len (V.d z)) (cn := Builtin.zeroCells zv.cells len) (by rw [List.length_replicate, ← ht']; omega) (by rw [← ht']; exact hclen) hccell (by rw [List.length_replicate, ← ht']; exact hcs) hcrep
                  rw [List.length_replicate, ← ht'] at hover
                  obtain ⟨i1, i2, i3⟩ := set_cells (xs' := xs.take off ++ List.replicate len (V.d z) ++ xs.drop (off + len)) hi hf he0 hg' hb' (by rw [hn, ht']) h00 (by rw [← ht']; exact hfit') hfr hb1
                    (by rw [List.length_append, List.length_append, List.length_take, List.length_drop, List.length_replicate]; omega) (by rw [← ht']; exact hover) (patch_size _ _ _)
                  exact ⟨_, _, F, G, hrun, i1, i2, i3, rt _, rfl, rfl⟩
          · simp [Pg.run] at hr
      | _ => simp [Pg.run] at hr
  · simp [Pg.run] at hr

end
end Go.AM
namespace Go.AM
open Go

section
variable {P : Program}

theorem nilRows_snd {w : World} {F : Nat → Prop} {G : Gh} : ∀ (es : List (Option TypeId)) (z : List D) (st st' : St) (cs : List V) (us : List Value), Inv P w F G st.rows st.next → RepDs w.heap F z us.toArray →
    (nilRows es z).run st = some (cs, st') → Inv P w F G st'.rows st'.next ∧ (∀ b, owns st'.rows G b → owns st.rows G b ∨ w.heap.size ≤ b) ∧ Reps w.heap F G cs us.toArray ∧ st'.dfr = st.dfr ∧ st'.rc = st.rc ∧ ((∀ y ∈ z, y.isCell = true) → ∀ y ∈ cs, y.isCell = true)
  | es, [], st, st', cs, us, hi, hz, hr => by
    cases es with
    | nil =>
      simp only [nilRows, Pg.run, Option.some.injEq, Prod.mk.injEq] at hr
      obtain ⟨rfl, rfl⟩ := hr
      exact ⟨hi, fun _ h => .inl h, ⟨hz.1, fun i v u h => by simp at h⟩, rfl, rfl, fun _ y hy => by simp at hy⟩
    | cons e es => cases e <;> simp [nilRows, Pg.run] at hr
  | es, y :: z, st, st', cs, us, hi, hz, hr => by
    cases us with
    | nil => have := hz.1; simp at this
    | cons u us =>
      have hy : RepD w.heap F y u := hz.2 0 y u (by simp) (by simp)
      have hz' : RepDs w.heap F z us.toArray := ⟨by simpa using hz.1, fun i a b q1 q2 => hz.2 (i + 1) a b (by simpa using q1) (by simpa using q2)⟩
      cases es with
      | nil => simp [nilRows, Pg.run] at hr
      | cons e es =>
        have plain : (nilRows (e :: es) (y :: z) = (nilRows es z).bind fun r => .ret (.d y :: r)) → Inv P w F G st'.rows st'.next ∧ (∀ b, owns st'.rows G b → owns st.rows G b ∨ w.heap.size ≤ b) ∧ Reps w.heap F G cs (u :: us).toArray ∧ st'.dfr = st.dfr ∧ st'.rc = st.rc ∧ ((∀ q ∈ y :: z, q.isCell = true) → ∀ q ∈ cs, q.isCell = true) := by
          intro heq
          rw [heq] at hr
          obtain ⟨r, st1, h1, h2⟩ := Pg.bind_some hr
          simp only [Pg.run, Option.some.injEq, Prod.mk.injEq] at h2
          obtain ⟨rfl, rfl⟩ := h2
          obtain ⟨i1, i2, i3, i4, i5, i6⟩ := nilRows_snd es z st st1 r us hi hz' h1
          refine ⟨i1, i2, Reps.cons (.d _ _ hy) i3, i4, i5, fun hq q hm => ?_⟩
          rcases List.mem_cons.1 hm with rfl | hm
          · exact hq y (by simp)
          · exact i6 (fun a ha => hq a (by simp [ha])) q hm
        cases e with
        | none => exact plain rfl
        | some t =>
          cases y with
          | snil =>
            simp only [nilRows, Pg.run] at hr
            obtain ⟨r, st1, h1, h2⟩ := Pg.bind_some hr
            simp only [Pg.run, Option.some.injEq, Prod.mk.injEq] at h2
            obtain ⟨rfl, rfl⟩ := h2
            obtain ⟨j1, j2⟩ := nil_row hi t
            obtain ⟨i1, i2, i3, i4, i5, i6⟩ := nilRows_snd es z _ st1 r us j1 hz' h1
            cases hy
            refine ⟨i1, fun b hb => (i2 b hb).elim (j2 b) .inr, Reps.cons (.sl0 _) i3, i4, i5, fun hq q hm => ?_⟩
            rcases List.mem_cons.1 hm with rfl | hm
            · rfl
            · exact i6 (fun a ha => hq a (by simp [ha])) q hm
          | _ => exact plain rfl

theorem one_or_agg {h : Array Obj} {F : Nat → Prop} {G : Gh} {g : Bool} {z : D} {zv : Value} {cs : List V} (hz : RepD h F z zv) (hg : g = true → ∃ a, zv = .agg a) (hg' : g = false → z.isCell = true)
    (hcs : Reps h F G cs zv.cells) (hcell : ∀ y ∈ cs, y.isCell = true) : RepV h F G (oneOrAgg g cs) zv := by
  cases g with
  | true =>
    obtain ⟨a, rfl⟩ := hg rfl
    exact hcs.agg hcell
  | false =>
    have hc := hg' rfl
    have h1 := hz.cellV hc
    have hcells : zv.cells = #[zv] := by cases zv <;> first | rfl | simp [Value.oneCell'] at h1
    rw [hcells] at hcs
    cases cs with
    | nil => have := hcs.1; simp at this
    | cons c l =>
      cases l with
      | nil => exact hcs.2 0 c zv rfl rfl
      | cons => have := hcs.1; simp at this

theorem alloc_run {t : TypeId} {w : World} {zv : Value} (hz : (zeroValue t).run P w = .ok zv w) : (Instr.alloc t true (.tuple #[])).run P w = (Instr.box t zv).run P w := by
  unfold Instr.alloc Instr.box
  simp [hz]

theorem alloc_snd {w : World} {F : Nat → Prop} {G : Gh} {st st' : St} (hi : Inv P w F G st.rows st.next) {t n : Nat} (hn : tySize P t = some n) (h0 : n ≠ 0) {z : D} (hz : tyZero P t = some z)
    {p : V} (hr : (boxP t n (.d z)).run st = some (p, st')) : Post P w F G st (Instr.alloc t true (.tuple #[])) p st' := by
  obtain ⟨zv, h1, h2⟩ := zero_run hz w
  have := box_snd hi hn h0 (uv := zv) (.d _ _ (h2 _ _)) hr
  unfold Post at this ⊢
  rw [alloc_run h1]
  exact this

theorem allocn_snd {w : World} {F : Nat → Prop} {G : Gh} {st st' : St} (hi : Inv P w F G st.rows st.next) {t n : Nat} (hn : tySize P t = some n) (h0 : n ≠ 0) {z : D} (hz : tyZero P t = some z) (hzl : z.cells.length = n) {g : Bool} (hg : z.isCell ≠ g)
    {es : List (Option TypeId)} {p : V} (hr : ((nilRows es z.cells).bind fun cs => boxP t n (oneOrAgg g cs)).run st = some (p, st')) : Post P w F G st (Instr.alloc t true (.tuple #[])) p st' := by
  obtain ⟨zv, h1, h2⟩ := zero_run hz w
  obtain ⟨cs, st1, r1, r2⟩ := Pg.bind_some hr
  have hzr := h2 w.heap F
  have hne : z.cells ≠ [] := by intro h; rw [h] at hzl; simp at hzl; omega
  obtain ⟨i1, i2, i3, i4, i5, i6⟩ := nilRows_snd (w := w) (F := F) (G := G) es z.cells st st1 cs zv.cells.toList hi (by simpa using hzr.cells hne) r1
  have hcell : ∀ y ∈ cs, y.isCell = true := i6 (D.cells_isCell hzr)
  have hone : RepV w.heap F G (oneOrAgg g cs) zv := by
    refine one_or_agg hzr ?_ ?_ (by simpa using i3) hcell
    · intro h
      subst h
      have hc : z.isCell = false := by simpa using hg
      cases hzr with
      | junk => exact absurd rfl hne
      | agg cs cs' => exact ⟨_, rfl⟩
      | _ => simp [D.isCell] at hc
    · intro h; subst h; simpa using hg
  obtain ⟨u, w', F', G', q1, q2, q3, q4, q5, q6, q7⟩ := box_snd i1 hn h0 hone r2
  refine ⟨u, w', F', G', by rw [alloc_run h1]; exact q1, q2, ?_, fun b hb => (q4 b hb).elim (i2 b) .inr, q5, q6.trans i4, q7.trans i5⟩
  have := (Ext.refl w F G (owns st.rows G)).trans q3 (fun x hx => i2 x hx)
  exact this

end
end Go.AM
namespace Go.AM
open Go

section
variable {P : Program}

/-- An operation that leaves the world as it was. -/
def PureOk (P : Program) (w : World) (F : Nat → Prop) (G : Gh) (s : Sem Value) (v : V) : Prop := ∃ u, s.run P w = .ok u w ∧ RepV w.heap F G v u

theorem PureOk.d {w : World} {F : Nat → Prop} {G : Gh} {s : Sem Value} {x : D} {u : Value} (h : s.run P w = .ok u w) (r : RepD w.heap F x u) : PureOk P w F G s (.d x) := ⟨u, h, .d _ _ r⟩

theorem shift_snd {w : World} {F : Nat → Prop} {G : Gh} {t : TypeId} {op : BinOp} (ho : op = .shl ∨ op = .shr) {k j : IntKind} {a b : Int} {z : D} (h : vShift op k a b = some z) :
    PureOk P w F G (binOp op t (.int k a) (.int j b)) (.d z) := by
  unfold vShift at h
  split at h
  · simp at h
  · rename_i hb
    rcases ho with rfl | rfl
    · simp only [Option.some.injEq] at h
      subst h
      refine PureOk.d (u := .int k (k.wrap (a * 2 ^ (min b.toNat k.bits)))) ?_ (.int _ _)
      simp [binOp, Op.shift, hb]
    · simp only [Option.some.injEq] at h
      subst h
      refine PureOk.d (u := .int k (a.fdiv (2 ^ (min b.toNat k.bits)))) ?_ (.int _ _)
      simp [binOp, Op.shift, hb]

theorem intOp_snd {w : World} {F : Nat → Prop} {G : Gh} {t : TypeId} {op : BinOp} {k : IntKind} {a b : Int} {z : D} (h : intOp op k a b = some z) :
    PureOk P w F G (binOp op t (.int k a) (.int k b)) (.d z) := by
  cases op <;> simp only [intOp, Option.some.injEq] at h
  case quo =>
    split at h
    · simp at h
    · rename_i hb
      simp only [Option.some.injEq] at h
      subst h
      refine PureOk.d (u := .int k (k.wrap (a.tdiv b))) ?_ (.int _ _)
      simp [binOp, Op.intDiv, hb]
  case rem =>
    split at h
    · simp at h
    · rename_i hb
      simp only [Option.some.injEq] at h
      subst h
      refine PureOk.d (u := .int k (a.tmod b)) ?_ (.int _ _)
      simp [binOp, Op.intDiv, hb]
  case andNot =>
    subst h
    refine PureOk.d (u := .int k (k.wrap (BitVec.ofInt k.bits a &&& ~~~BitVec.ofInt k.bits b).toNat)) ?_ (.int _ _)
    rw [show binOp .andNot t (.int k a) (.int k b) = Op.intBits .andNot k a b by simp [binOp]]
    rfl
  all_goals first
    | (simp at h; done)
    | (subst h
       first
        | exact PureOk.d (by simp [binOp, Op.intArith]; rfl) (.int _ _)
        | exact PureOk.d (by simp [binOp]; rfl) (.int _ _)
        | exact PureOk.d (by simp [binOp, Op.intCmp]) (.bool _))

theorem toList_eq (s : List UInt8) : (⟨s.toArray⟩ : ByteArray).toList = s := ByteArray.toList_mk s

theorem strOp_snd {w : World} {F : Nat → Prop} {G : Gh} {t : TypeId} {op : BinOp} {a b : List UInt8} {z : D} (ho : op ≠ .shl ∧ op ≠ .shr) (h : strOp op a b = some z) :
    PureOk P w F G (binOp op t (.string ⟨a.toArray⟩) (.string ⟨b.toArray⟩)) (.d z) := by
  cases op <;> simp only [strOp, Option.some.injEq] at h
  case add =>
    split at h
    · rename_i hle
      simp only [Option.some.injEq] at h
      subst h
      have hs1 : (⟨a.toArray⟩ : ByteArray).size = a.length := rfl
      have hs2 : (⟨b.toArray⟩ : ByteArray).size = b.length := rfl
      have hmax : IntKind.i64.max = 9223372036854775807 := rfl
      have hn : ¬ (9223372036854775807 < (a.length : Int) + (b.length : Int)) := by omega
      refine PureOk.d (u := .string ⟨(a ++ b).toArray⟩) ?_ (.str _)
      have hap : (⟨a.toArray⟩ : ByteArray) ++ ⟨b.toArray⟩ = ⟨(a ++ b).toArray⟩ := by
        apply ByteArray.ext
        simp
      simp [binOp, Op.stringOp, hs1, hs2, hmax, hn, hap]
    · simp at h
  all_goals first
    | (simp at h; done)
    | (subst h
       exact PureOk.d (by simp [binOp, Op.stringOp, toList_eq]) (.bool _))

theorem un_snd {w : World} {F : Nat → Prop} {G : Gh} {op : UnOp} {x v : V} {ux : Value} (rx : RepV w.heap F G x ux) (h : vUn op x = some v) : PureOk P w F G (Op.unary op ux) v := by
  unfold vUn at h
  split at h
  · rename_i k n
    simp only [Option.some.injEq] at h; subst h
    cases rx.inv_d
    exact PureOk.d (by simp [Op.unary, Op.intArith]) (.int _ _)
  · rename_i k n
    simp only [Option.some.injEq] at h; subst h
    cases rx.inv_d
    exact PureOk.d (by simp [Op.unary]; rfl) (.int _ _)
  · rename_i b
    simp only [Option.some.injEq] at h; subst h
    cases rx.inv_d
    exact PureOk.d (by simp [Op.unary]) (.bool _)
  · simp at h

end
end Go.AM
namespace Go.AM
open Go

section
variable {P : Program} {w : World} {F : Nat → Prop} {G : Gh}

theorem ext_snd {v x : V} {u : Value} {i : Nat} (r : RepV w.heap F G v u) (h : vExt v i = some x) : PureOk P w F G (Instr.extract u i) x := by
  unfold vExt at h
  split at h
  · rename_i vs
    rw [nth_eq] at h
    cases r with
    | tup _ cs' hs hr =>
      have hlt := lt_of_someL h
      refine ⟨cs'[i]'(by omega), ?_, hr i x _ h (by simp)⟩
      simp [Instr.extract, hs, hlt]
  · simp at h

theorem ifc_snd {t : TypeId} {d : TypeDesc} (hd : P.underlying t = some d) (hni : ∀ m, d ≠ .interface m) {v : V} {u : Value} (r : RepV w.heap F G v u) : PureOk P w F G (Instr.makeInterface t u) (mkIfc t v) := by
  refine ⟨.iface t u, ?_, ?_⟩
  · unfold Instr.makeInterface
    simp only [Sem.run_bind, und_run hd, Result.andThen_ok]
    cases d <;> first | rfl | exact absurd rfl (hni _)
  · cases v with
    | d x => exact .d _ _ (.ifc _ _ _ r.inv_d)
    | _ => exact .ifc _ _ _ r

theorem mkfn_snd {f : Fn} {a b : List V} {ua ub : Array Value} (ra : Reps w.heap F G a ua) (rb : Reps w.heap F G b ub) : PureOk P w F G (Instr.makeFunc f ua ub) (mkFn f a b) := by
  refine ⟨.func f ua ub, by simp [Instr.makeFunc], ?_⟩
  have slow : RepV w.heap F G (.fn f a b) (.func f ua ub) := .fn f a b ua ub ra.1 rb.1 ra.2 rb.2
  unfold mkFn
  split
  · rename_i x y hx hy
    have h1 := allD_eq hx
    have h2 := allD_eq hy
    subst h1
    subst h2
    exact .d _ _ (.fn f x y ua ub ra.toD.1 rb.toD.1 ra.toD.2 rb.toD.2)
  · exact slow

theorem tup2 {h : Array Obj} {v : V} {u : Value} (r : RepV h F G v u) (b : Bool) : RepV h F G (.tup [v, .d (.bool b)]) (.tuple #[u, .bool b]) := by
  have := Reps.cons (a := [Value.bool b]) r (Reps.one (.d _ _ (.bool b)))
  exact RepV.tup _ _ this.1 this.2

theorem tass_snd {t : TypeId} {d : TypeDesc} (hd : P.underlying t = some d) (hni : ∀ m, d ≠ .interface m) {z : D} (hz : tyZero P t = some z) {ok : Bool} {xt : TypeId} {v x : V} {u : Value} (r : RepV w.heap F G v u)
    (h : vTass t z ok v = some x) : PureOk P w F G (Instr.typeAssert u xt t ok) x := by
  obtain ⟨zv, hz1, hz2⟩ := zero_run hz w
  have fail : ∀ (h2 : Value), (h2 = .nilIface ∨ ∃ t' v', h2 = .iface t' v' ∧ t' ≠ t) → (Instr.typeAssert h2 xt t true).run P w = .ok (.tuple #[zv, .bool false]) w := by
    intro u' hu'
    unfold Instr.typeAssert
    rcases hu' with rfl | ⟨t', v', rfl, hne⟩
    · cases d <;> first | exact absurd rfl (hni _) | simp [und_run hd, hz1]
    · cases d <;> first | exact absurd rfl (hni _) | simp [und_run hd, hz1, hne]
  have good : ∀ v', (Instr.typeAssert (.iface t v') xt t ok).run P w = .ok (if ok then .tuple #[v', .bool true] else v') w := by
    intro v'
    unfold Instr.typeAssert
    cases d <;> first | exact absurd rfl (hni _) | simp [und_run hd]
  have bad : ok = true → ∀ u', (u' = .nilIface ∨ ∃ t' v', u' = .iface t' v' ∧ t' ≠ t) → PureOk P w F G (Instr.typeAssert u' xt t ok) (.tup [.d z, .d (.bool false)]) := by
    intro h1 u' h2
    subst h1
    exact ⟨_, fail u' h2, tup2 (.d _ _ (hz2 _ _)) false⟩
  have okk : ∀ (v' : V) (u' : Value), RepV w.heap F G v' u' → PureOk P w F G (Instr.typeAssert (.iface t u') xt t ok) (bif ok then .tup [v', .d (.bool true)] else v') := by
    intro v' u' r'
    cases ok with
    | true => exact ⟨_, good u', tup2 r' true⟩
    | false => exact ⟨_, good u', r'⟩
  unfold vTass at h
  split at h
  · cases ok with
    | false => simp at h
    | true =>
      simp only [cond_true, Option.some.injEq] at h
      subst h
      cases r.inv_d
      exact bad rfl _ (.inl rfl)
  · rename_i t' y
    cases r.inv_d with
    | ifc _ _ u' r' =>
      cases he : Nat.beq t' t with
      | true =>
        rw [he] at h
        have := Nat.eq_of_beq_eq_true he
        subst this
        have := okk (.d y) u' (.d _ _ r')
        cases ok <;> (simp only [cond_true, cond_false, Option.some.injEq] at h; subst h; exact this)
      | false =>
        rw [he] at h
        have hne : t' ≠ t := by intro hh; subst hh; simp at he
        cases ok with
        | false => simp at h
        | true =>
          simp only [cond_true, cond_false, Option.some.injEq] at h
          subst h
          exact bad rfl _ (.inr ⟨t', u', rfl, hne⟩)
  · rename_i t' y
    cases r with
    | ifc _ _ u' r' =>
      cases he : Nat.beq t' t with
      | true =>
        rw [he] at h
        have := Nat.eq_of_beq_eq_true he
        subst this
        have := okk y u' r'
        cases ok <;> (simp only [cond_true, cond_false, Option.some.injEq] at h; subst h; exact this)
      | false =>
        rw [he] at h
        have hne : t' ≠ t := by intro hh; subst hh; simp at he
        cases ok with
        | false => simp at h
        | true =>
          simp only [cond_true, cond_false, Option.some.injEq] at h
          subst h
          exact bad rfl _ (.inr ⟨t', u', rfl, hne⟩)
  · simp at h

theorem istr_snd {t : TypeId} (ht : P.underlying t = some .string) {v x y : V} {u ux : Value} (r : RepV w.heap F G v u) (rx : RepV w.heap F G x ux) (h : vIstr v x = some y) : PureOk P w F G (Instr.index t u ux) y := by
  unfold vIstr at h
  split at h
  · rename_i b0
    split at h
    · rename_i k n hn
      obtain ⟨b, hb0, rfl⟩ : ∃ b, b0 = b ∧ u = .string ⟨b.toArray⟩ := by
        cases r.inv_d
        exact ⟨_, rfl, rfl⟩
      subst hb0
      have hux : ∃ k', ux = .int k' n := by
        unfold vInt at hn
        split at hn
        · simp only [Option.some.injEq, Prod.mk.injEq] at hn
          obtain ⟨rfl, rfl⟩ := hn
          cases rx.inv_d
          exact ⟨_, rfl⟩
        · simp at hn
      obtain ⟨k', rfl⟩ := hux
      unfold vIndexStr at h
      split at h
      · rename_i h0
        cases hb : b0[n.toNat]? with
        | none => rw [hb] at h; simp at h
        | some q =>
          rw [hb] at h
          simp only [Option.some.injEq] at h
          subst h
          have hlt := lt_of_someL hb
          refine ⟨.int .u8 q.toNat, ?_, .d _ _ (.int _ _)⟩
          have hg : (⟨b0.toArray⟩ : ByteArray)[n.toNat]? = some q := by
            have hsz : n.toNat < (⟨b0.toArray⟩ : ByteArray).size := hlt
            rw [getElem?_pos (⟨b0.toArray⟩ : ByteArray) n.toNat hsz]
            congr 1
            have : b0[n.toNat] = q := by
              rw [List.getElem?_eq_getElem hlt] at hb
              exact Option.some.inj hb
            exact this
          unfold Instr.index
          simp [asIntOf, und_run ht, h0, hg]
      · simp at h
    · simp at h
  · simp at h

theorem nilc_snd {v x : V} {u : Value} (r : RepV w.heap F G v u) (h : vNilCheck v = some x) : x = v ∧ (∃ a, u = .pointer (some a)) ∨ x = v ∧ ∃ f a b, u = .func (.func f) a b := by
  unfold vNilCheck at h
  split at h
  · simp only [Option.some.injEq] at h; subst h
    cases r
    exact .inl ⟨rfl, _, rfl⟩
  · simp only [Option.some.injEq] at h; subst h
    cases r.inv_d
    exact .inl ⟨rfl, _, rfl⟩
  · simp only [Option.some.injEq] at h; subst h
    cases r.inv_d
    exact .inr ⟨rfl, _, _, _, rfl⟩
  · simp only [Option.some.injEq] at h; subst h
    cases r
    exact .inr ⟨rfl, _, _, _, rfl⟩
  · simp at h

end
end Go.AM
namespace Go.AM
open Go

section
variable {P : Program} {w : World} {F : Nat → Prop} {G : Gh}

theorem agg_run {t : TypeId} {g : Bool} (hg : tyAgg P t = some g) : (isAgg t).run P w = .ok g w := by
  unfold tyAgg at hg
  unfold isAgg underlying
  split at hg <;> simp_all

theorem partA_snd {t n off : Nat} {g : Bool} (hn : tySize P t = some n) (hg : tyAgg P t = some g) {x y : V} {u : Value} (r : RepV w.heap F G x u) (h : vPartA off n g x = some y) :
    ∃ a, u = .agg a ∧ PureOk P w F G (part t a off) y := by
  have fin : ∀ (cs : List V) (a : Array Value), Reps w.heap F G cs a → (∀ z ∈ cs, z.isCell = true) → (g = true → off + n ≤ cs.length ∧ RepV w.heap F G y (.agg (a.extract off (off + n)))) → (g = false → cs[off]? = some y) → PureOk P w F G (part t a off) y := by
    intro cs a ha hcell h1 h2
    unfold part
    cases g with
    | true =>
      exact ⟨.agg (a.extract off (off + n)), by simp [agg_run hg, size_run hn], (h1 rfl).2⟩
    | false =>
      obtain ⟨v, e1, e2⟩ := ha.get (h2 rfl)
      exact ⟨v, by simp [agg_run hg, e1], e2⟩
  have sub : ∀ (cs : List V) (a : Array Value), Reps w.heap F G cs a → off + n ≤ cs.length → Reps w.heap F G ((cs.drop off).take n) (a.extract off (off + n)) := by
    intro cs a ha hle
    refine ⟨by have := ha.1; simp; omega, ?_⟩
    intro i v u' h1 h2
    rw [List.getElem?_take] at h1
    split at h1
    · rw [List.getElem?_drop] at h1
      rw [Array.getElem?_extract] at h2
      split at h2
      · exact ha.2 (off + i) v u' h1 h2
      · simp at h2
    · simp at h1
  unfold vPartA at h
  split at h
  · rename_i cs
    cases r.inv_d with
    | agg _ a hq hs hr =>
      refine ⟨a, rfl, ?_⟩
      have ha : Reps w.heap F G (cs.map .d) a := RepDs.toV ⟨hs, hr⟩
      simp only [vPart] at h
      refine fin (cs.map .d) a ha (by intro z hz; obtain ⟨q, hq1, rfl⟩ := List.mem_map.1 hz; exact hq q hq1) ?_ ?_
      · intro hgt
        subst hgt
        simp only [partD] at h
        split at h
        · rename_i z hz
          split at hz
          · rename_i hle
            simp only [Option.some.injEq] at hz h
            subst hz
            subst h
            have hle' : off + n ≤ (cs.map V.d).length := by simpa using hle
            have := sub _ _ ha hle'
            rw [← List.map_drop, ← List.map_take] at this
            have hd := this.toD
            exact ⟨hle', .d _ _ (.agg _ _ (fun z hz => hq z (List.mem_of_mem_drop (List.mem_of_mem_take hz))) hd.1 hd.2)⟩
          · simp at hz
        · simp at h
      · intro hgf
        subst hgf
        simp only [partD] at h
        split at h
        · rename_i z hz
          simp only [Option.some.injEq] at h
          subst h
          simp [hz]
        · simp at h
  · rename_i cs
    cases r with
    | agg _ a hq hs hr =>
      refine ⟨a, rfl, ?_⟩
      have ha : Reps w.heap F G cs a := ⟨hs, hr⟩
      simp only [vPart] at h
      refine fin cs a ha hq ?_ ?_
      · intro hgt
        subst hgt
        simp only [cond_true] at h
        split at h
        · rename_i hle
          simp only [Option.some.injEq] at h
          subst h
          exact ⟨hle, (sub _ _ ha hle).agg (fun z hz => hq z (List.mem_of_mem_drop (List.mem_of_mem_take hz)))⟩
        · simp at h
      · intro hgf
        subst hgf
        simpa using h
  · simp at h

theorem field_snd {xt : TypeId} {fs : Array Field} (hx : P.underlying xt = some (.struct fs)) {i : Nat} {fd : Field} (hf : fs[i]? = some fd) {n : Nat} {g : Bool} (hn : tySize P fd.type = some n) (hg : tyAgg P fd.type = some g)
    {x y : V} {u : Value} (r : RepV w.heap F G x u) (h : vPartA fd.offset n g x = some y) : PureOk P w F G (Instr.field xt u i) y := by
  obtain ⟨a, rfl, v, h1, h2⟩ := partA_snd hn hg r h
  refine ⟨v, ?_, h2⟩
  unfold Instr.field
  simp [und_run hx, hf, asAgg, h1]

end
end Go.AM
namespace Go.AM
open Go

section
variable {P : Program} {w : World} {F : Nat → Prop} {G : Gh}

/-- An address, some cells on. -/
theorem addr_on {off : Nat} {v y : V} {u : Value} (r : RepV w.heap F G v u) (h : vFieldAddr off v = some y) :
    ∃ a, u = .pointer (some a) ∧ RepV w.heap F G y (.pointer (some (a.add off))) := by
  unfold vFieldAddr at h
  split at h
  · rename_i id e i o
    simp only [Option.some.injEq] at h
    subst h
    cases r with
    | ptr _ _ _ _ gb hg =>
      refine ⟨_, rfl, ?_⟩
      rw [addr_add, Nat.add_assoc]
      exact .ptr id e i (o + off) gb hg
  · rename_i xs i o
    simp only [Option.some.injEq] at h
    subst h
    cases r.inv_d with
    | rop _ _ _ b base es c t fr hF hb hes hfit hcell hc =>
      refine ⟨_, rfl, ?_⟩
      rw [addr_add, Nat.add_assoc]
      exact .d _ _ (.rop xs i (o + off) b base es c t fr hF hb hes hfit hcell hc)
  · simp at h

theorem faddr_snd {xt : TypeId} {fs : Array Field} (hx : P.underlying xt = some (.struct fs)) {i : Nat} {fd : Field} (hf : fs[i]? = some fd) {n : Nat} (hn : tySize P fd.type = some n) (h0 : n ≠ 0)
    {x y : V} {u : Value} (r : RepV w.heap F G x u) (h : vFieldAddr fd.offset x = some y) : PureOk P w F G (Instr.fieldAt xt u i) y := by
  obtain ⟨a, rfl, h2⟩ := addr_on r h
  refine ⟨_, ?_, h2⟩
  unfold Instr.fieldAt
  simp [und_run hx, hf, Instr.sureAddr, fieldPlace, size_run hn, h0]

theorem int_of {x : V} {ux : Value} {k : IntKind} {n : Int} (rx : RepV w.heap F G x ux) (hn : vInt x = some (k, n)) : ∃ k', ux = .int k' n := by
  unfold vInt at hn
  split at hn
  · simp only [Option.some.injEq, Prod.mk.injEq] at hn
    obtain ⟨rfl, rfl⟩ := hn
    cases rx.inv_d
    exact ⟨_, rfl⟩
  · simp at hn

theorem aaddr_snd {t : TypeId} {len : Nat} {e : TypeId} (ht : P.underlying t = some (.array len e)) {n : Nat} (hn : tySize P e = some n) {x i y : V} {u ui : Value} (r : RepV w.heap F G x u) (ri : RepV w.heap F G i ui)
    (h : vAaddr len n x i = some y) : PureOk P w F G (Instr.indexAt t u ui) y := by
  unfold vAaddr at h
  split at h
  · rename_i k m hm
    obtain ⟨k', rfl⟩ := int_of ri hm
    unfold vArrAddr at h
    split at h
    · rename_i hb
      obtain ⟨a, rfl, h2⟩ := addr_on r h
      refine ⟨_, ?_, h2⟩
      unfold Instr.indexAt
      simp [asIntOf, und_run ht, Instr.sureAddr, hb, size_run hn]
    · simp at h
  · simp at h

theorem iarr_snd {t : TypeId} {len : Nat} {e : TypeId} (ht : P.underlying t = some (.array len e)) {n : Nat} (hn : tySize P e = some n) {g : Bool} (hg : tyAgg P e = some g) {x i y : V} {u ui : Value} (r : RepV w.heap F G x u) (ri : RepV w.heap F G i ui)
    (h : vIarr len n g x i = some y) : PureOk P w F G (Instr.index t u ui) y := by
  unfold vIarr at h
  split at h
  · rename_i k m hm
    obtain ⟨k', rfl⟩ := int_of ri hm
    split at h
    · rename_i hb
      obtain ⟨a, rfl, v, h1, h2⟩ := partA_snd hn hg r h
      refine ⟨v, ?_, h2⟩
      unfold Instr.index
      simp [asIntOf, und_run ht, hb, size_run hn, h1]
    · simp at h
  · simp at h

end
end Go.AM
namespace Go.AM
open Go

section
variable {P : Program} {w : World} {F : Nat → Prop} {G : Gh}

/-- A bound that is there or not. -/
def RepO (h : Array Obj) (F : Nat → Prop) (G : Gh) : Option V → Option Value → Prop
  | none, none => True
  | some v, some u => RepV h F G v u
  | _, _ => False

theorem bound_run {dflt n top : Nat} {code : BoundsCode} {x : Option V} {u : Option Value} (r : RepO w.heap F G x u) (h : boundOf dflt x = some n) (hle : n ≤ top) :
    (u = none ∧ n = dflt) ∨ ∃ v, u = some v ∧ (Instr.sliceBound v top code).run P w = .ok n w := by
  unfold boundOf at h
  split at h
  · simp only [Option.some.injEq] at h
    subst h
    cases u with
    | none => exact .inl ⟨rfl, rfl⟩
    | some => exact r.elim
  · rename_i k i
    split at h
    · rename_i h0
      simp only [Option.some.injEq] at h
      subst h
      cases u with
      | none => exact r.elim
      | some v =>
        cases RepV.inv_d r
        refine .inr ⟨_, rfl, ?_⟩
        unfold Instr.sliceBound
        have : i ≤ (top : Int) := by omega
        simp [asIntOf, h0, this]
    · simp at h
  · simp at h

theorem bounds_run {isSlice : Bool} {len cap l m : Nat} {lo hi : Option V} {ul uh : Option Value} (rl : RepO w.heap F G lo ul) (rh : RepO w.heap F G hi uh)
    (h1 : boundOf len hi = some m) (h2 : boundOf 0 lo = some l) (hlm : l ≤ m) (hm : m ≤ cap) : (Instr.sliceBounds isSlice len cap ul uh none).run P w = .ok (l, m, cap) w := by
  unfold Instr.sliceBounds
  rcases bound_run (P := P) (top := cap) (code := if isSlice then .sliceAcap else .sliceAlen) rh h1 hm with ⟨rfl, rfl⟩ | ⟨v, rfl, e1⟩
  · rcases bound_run (P := P) (top := m) (code := .sliceB) rl h2 hlm with ⟨rfl, rfl⟩ | ⟨v, rfl, e2⟩
    · simp
    · simp [e2]
  · rcases bound_run (P := P) (top := m) (code := .sliceB) rl h2 hlm with ⟨rfl, rfl⟩ | ⟨v', rfl, e2⟩
    · simp [e1]
    · simp [e1, e2]

theorem slice_str_snd {t : TypeId} (ht : P.underlying t = some .string) {x y : V} {u : Value} {lo hi : Option V} {ul uh : Option Value} (r : RepV w.heap F G x u) (rl : RepO w.heap F G lo ul) (rh : RepO w.heap F G hi uh)
    (h : vSliceS x lo hi = some y) : PureOk P w F G (Instr.sliceAt t u ul uh none) y := by
  unfold vSliceS at h
  split at h
  · rename_i s
    split at h
    · rename_i m l h1 h2
      split at h
      · rename_i hle
        simp only [Option.some.injEq] at h
        subst h
        obtain ⟨b, hb, rfl⟩ : ∃ b, s = b ∧ u = .string ⟨b.toArray⟩ := by
          cases r.inv_d
          exact ⟨_, rfl, rfl⟩
        subst hb
        have hsz : (⟨s.toArray⟩ : ByteArray).size = s.length := rfl
        have hb := bounds_run (P := P) (isSlice := false) (cap := s.length) rl rh h1 h2 hle.1 hle.2
        refine ⟨.string ⟨((s.take m).drop l).toArray⟩, ?_, .d _ _ (.str _)⟩
        have hex : (⟨s.toArray⟩ : ByteArray).extract l m = ⟨((s.take m).drop l).toArray⟩ := by
          apply ByteArray.ext
          rw [ByteArray.data_extract]
          apply Array.ext'
          simp [List.drop_take]
        unfold Instr.sliceAt
        simp [und_run ht, Instr.slice, hsz, hb, hex]
      · simp at h
    · simp at h
  all_goals simp_all

end
end Go.AM
namespace Go.AM
open Go

section
variable {P : Program} {w : World} {F : Nat → Prop} {G : Gh}

theorem nilSl_spec {x : V} {u : Value} {b : Bool} (r : RepV w.heap F G x u) (h : nilSl x = some b) : ∃ a l c, u = .slice a l c ∧ a.isNone = b := by
  unfold nilSl at h
  split at h
  · simp only [Option.some.injEq] at h; subst h
    cases r.inv_d
    exact ⟨_, _, _, rfl, rfl⟩
  · simp only [Option.some.injEq] at h; subst h
    cases r.inv_d <;> exact ⟨_, _, _, rfl, rfl⟩
  · rename_i id e off len
    simp only [Option.some.injEq] at h; subst h
    cases r with
    | sl0 => exact ⟨_, _, _, rfl, rfl⟩
    | sl _ _ _ _ gb a hg he => exact ⟨_, _, _, rfl, (beq_ne he).symm⟩
  · simp at h

theorem nilMap_spec {x : V} {u : Value} {b : Bool} (r : RepV w.heap F G x u) (h : nilMap x = some b) : ∃ a, u = .map a ∧ a.isNone = b := by
  unfold nilMap at h
  split at h
  · simp only [Option.some.injEq] at h; subst h
    cases r.inv_d
    exact ⟨_, rfl, rfl⟩
  · simp only [Option.some.injEq] at h; subst h
    cases r
    exact ⟨_, rfl, rfl⟩
  · simp at h

theorem nilPtr_spec {x : V} {u : Value} {b : Bool} (r : RepV w.heap F G x u) (h : nilPtr x = some b) : ∃ a, u = .pointer a ∧ a.isNone = b := by
  unfold nilPtr at h
  split at h
  · simp only [Option.some.injEq] at h; subst h
    cases r.inv_d
    exact ⟨_, rfl, rfl⟩
  · simp only [Option.some.injEq] at h; subst h
    cases r.inv_d
    exact ⟨_, rfl, rfl⟩
  · simp only [Option.some.injEq] at h; subst h
    cases r
    exact ⟨_, rfl, rfl⟩
  · simp at h

theorem nilFn_spec {x : V} {u : Value} {b : Bool} (r : RepV w.heap F G x u) (h : nilFn x = some b) : (b = true ∧ u = .nilFunc) ∨ (b = false ∧ ∃ f p q, u = .func f p q) := by
  unfold nilFn at h
  split at h
  · simp only [Option.some.injEq] at h; subst h
    cases r.inv_d
    exact .inl ⟨rfl, rfl⟩
  · simp only [Option.some.injEq] at h; subst h
    cases r.inv_d
    exact .inr ⟨rfl, _, _, _, rfl⟩
  · simp only [Option.some.injEq] at h; subst h
    cases r
    exact .inr ⟨rfl, _, _, _, rfl⟩
  · simp at h

theorem nilIfc_spec {x : V} {u : Value} {b : Bool} (r : RepV w.heap F G x u) (h : nilIfc x = some b) : (b = true ∧ u = .nilIface) ∨ (b = false ∧ ∃ t v, u = .iface t v) := by
  unfold nilIfc at h
  split at h
  · simp only [Option.some.injEq] at h; subst h
    cases r.inv_d
    exact .inl ⟨rfl, rfl⟩
  · simp only [Option.some.injEq] at h; subst h
    cases r.inv_d
    exact .inr ⟨rfl, _, _, rfl⟩
  · simp only [Option.some.injEq] at h; subst h
    cases r
    exact .inr ⟨rfl, _, _, rfl⟩
  · simp at h

theorem eq_slice {t e : TypeId} (ht : P.underlying t = some (.slice e)) (d : Nat) (a : Option Addr) (l c l' c' : Nat) :
    (Op.equalIn (d + 1) t (.slice a l c) (.slice none l' c')).run P w = .ok a.isNone w ∧ (Op.equalIn (d + 1) t (.slice none l' c') (.slice a l c)).run P w = .ok a.isNone w := by
  constructor
  · cases a <;> simp [Op.equalIn, und_run ht]
  · simp [Op.equalIn, und_run ht]

theorem eq_map {t k e : TypeId} (ht : P.underlying t = some (.map k e)) (d : Nat) (a : Option Nat) :
    (Op.equalIn (d + 1) t (.map a) (.map none)).run P w = .ok a.isNone w ∧ (Op.equalIn (d + 1) t (.map none) (.map a)).run P w = .ok a.isNone w := by
  constructor
  · cases a <;> simp [Op.equalIn, und_run ht]
  · simp [Op.equalIn, und_run ht]

theorem eq_ptr {t e : TypeId} (ht : P.underlying t = some (.pointer e)) (d : Nat) (a : Option Addr) :
    (Op.equalIn (d + 1) t (.pointer a) (.pointer none)).run P w = .ok a.isNone w ∧ (Op.equalIn (d + 1) t (.pointer none) (.pointer a)).run P w = .ok a.isNone w := by
  constructor
  · cases a <;> simp [Op.equalIn, und_run ht]
  · simp [Op.equalIn, und_run ht]

end
end Go.AM
namespace Go.AM
open Go

section
variable {P : Program} {w : World} {F : Nat → Prop} {G : Gh}

theorem vEq_sl {t e : TypeId} (ht : P.underlying t = some (.slice e)) (d : Nat) {x y : V} {ux uy : Value} {b : Bool} (rx : RepV w.heap F G x ux) (ry : RepV w.heap F G y uy) (h : vEq .sl x y = some b) :
    (Op.equalIn (d + 1) t ux uy).run P w = .ok b w := by
  unfold vEq at h
  split at h <;> first | (simp at h; done) | skip
  all_goals try contradiction
  · obtain ⟨a, l, c, rfl, rfl⟩ := nilSl_spec ry h
    cases rx.inv_d
    exact (eq_slice ht d a l c 0 0).2
  · obtain ⟨a, l, c, rfl, rfl⟩ := nilSl_spec rx h
    cases ry.inv_d
    exact (eq_slice ht d a l c 0 0).1

theorem vEq_map {t k e : TypeId} (ht : P.underlying t = some (.map k e)) (d : Nat) {x y : V} {ux uy : Value} {b : Bool} (rx : RepV w.heap F G x ux) (ry : RepV w.heap F G y uy) (h : vEq .map x y = some b) :
    (Op.equalIn (d + 1) t ux uy).run P w = .ok b w := by
  unfold vEq at h
  split at h <;> first | (simp at h; done) | skip
  all_goals try contradiction
  · obtain ⟨a, rfl, rfl⟩ := nilMap_spec ry h
    cases rx.inv_d
    exact (eq_map ht d a).2
  · obtain ⟨a, rfl, rfl⟩ := nilMap_spec rx h
    cases ry.inv_d
    exact (eq_map ht d a).1

end
end Go.AM
namespace Go.AM
open Go

section
variable {P : Program} {w : World} {F : Nat → Prop} {G : Gh}

theorem vEq_fn {t : TypeId} {d : TypeDesc} (ht : P.underlying t = some d) (hd : ∃ a b c, d = .func a b c) (n : Nat) {x y : V} {ux uy : Value} {b : Bool} (rx : RepV w.heap F G x ux) (ry : RepV w.heap F G y uy) (h : vEq .fn x y = some b) :
    (Op.equalIn (n + 1) t ux uy).run P w = .ok b w := by
  obtain ⟨p, q, r, rfl⟩ := hd
  unfold vEq at h
  split at h <;> first | (simp at h; done) | skip
  all_goals try contradiction
  · cases rx.inv_d
    rcases nilFn_spec ry h with ⟨rfl, rfl⟩ | ⟨rfl, f, u, v, rfl⟩ <;> simp [Op.equalIn, und_run ht]
  · cases ry.inv_d
    rcases nilFn_spec rx h with ⟨rfl, rfl⟩ | ⟨rfl, f, u, v, rfl⟩ <;> simp [Op.equalIn, und_run ht]

theorem vEq_ifc {t : TypeId} {d : TypeDesc} (ht : P.underlying t = some d) (hd : ∃ m, d = .interface m) (n : Nat) {x y : V} {ux uy : Value} {b : Bool} (rx : RepV w.heap F G x ux) (ry : RepV w.heap F G y uy) (h : vEq .ifc x y = some b) :
    (Op.equalIn (n + 1) t ux uy).run P w = .ok b w := by
  obtain ⟨m, rfl⟩ := hd
  unfold vEq at h
  split at h <;> first | (simp at h; done) | skip
  all_goals try contradiction
  · cases rx.inv_d
    rcases nilIfc_spec ry h with ⟨rfl, rfl⟩ | ⟨rfl, u, v, rfl⟩ <;> simp [Op.equalIn, und_run ht]
  · cases ry.inv_d
    rcases nilIfc_spec rx h with ⟨rfl, rfl⟩ | ⟨rfl, u, v, rfl⟩ <;> simp [Op.equalIn, und_run ht]

end
end Go.AM
namespace Go.AM
open Go

section
variable {P : Program}

theorem RepV.ro_cases {w : World} {F : Nat → Prop} {G : Gh} {xs : List D} {tight : Bool} {u : Value} (r : RepV w.heap F G (.d (.ro xs tight)) u) :
    (∃ a cap, xs = [] ∧ u = .slice (some a) 0 cap ∧ (tight = true → cap = 0)) ∨
    ∃ b base es cap c t fr, u = .slice (some ⟨b, base, none⟩) xs.length cap ∧ F b ∧ w.heap[b]? = some (.cells c t fr) ∧ CellsAtD w.heap F base es xs c ∧ xs.length ≤ cap ∧ (tight = true → cap = xs.length) := by
  cases r.inv_d with
  | ro _ _ b base es cap c t fr hF hb hes hfit hcell hc hcap ht => exact .inr ⟨b, base, es, cap, c, t, fr, rfl, hF, hb, ⟨hes, hcell, hfit, hc⟩, hcap, ht⟩
  | roe _ a cap ht => exact .inl ⟨a, cap, rfl, rfl, ht⟩

/-- The row that a slice lies in. -/
theorem row_es {w : World} {F : Nat → Prop} {G : Gh} {id e : Nat} {gb : GB} (hg : G id e = some gb) (he : e ≠ 0) {t n : Nat} (hn : tySize P t = some n) :
    (∀ xs, RowOk P w.heap F G id (.cells e t xs) → gb.es = n) ∧ (∀ xs, RowOk P w.heap F G id (.fz e t xs) → gb.es = n) := by
  constructor
  · intro xs h
    cases h with
    | nil => exact absurd rfl he
    | cells _ _ _ gb' c fr he0 hg' hb ht =>
      rw [hg] at hg'; simp only [Option.some.injEq] at hg'; subst hg'
      rw [hn] at ht; simp only [Option.some.injEq] at ht; exact ht.symm
  · intro xs h
    cases h with
    | fz _ _ _ gb' c fr he0 hg' hF hb ht =>
      rw [hg] at hg'; simp only [Option.some.injEq] at hg'; subst hg'
      rw [hn] at ht; simp only [Option.some.injEq] at ht; exact ht.symm

theorem iaddr_snd {w : World} {F : Nat → Prop} {G : Gh} {st st' : St} (hi : Inv P w F G st.rows st.next) {t e : TypeId} (ht : P.underlying t = some (.slice e)) {n : Nat} (hn : tySize P e = some n) {x i y : V} {u ui : Value}
    (r : RepV w.heap F G x u) (ri : RepV w.heap F G i ui) (h : (iaddrP e n x i).run st = some (y, st')) : Post P w F G st (Instr.indexAt t u ui) y st' := by
  unfold iaddrP at h
  split at h
  case h_2 => simp [Pg.run] at h
  rename_i k m hm
  obtain ⟨k', rfl⟩ := int_of ri hm
  unfold indexAddrP at h
  have run : ∀ (a : Addr) (len cap : Nat), 0 ≤ m → m < (len : Int) → (Instr.indexAt t (.slice (some a) len cap) (.int k' m)).run P w = .ok (.pointer (some (a.add (m.toNat * n)))) w := by
    intro a len cap h1 h2
    unfold Instr.indexAt
    simp [asIntOf, und_run ht, h1, h2, size_run hn]
  split at h
  · rename_i xs tight
    split at h
    · rename_i hb
      rcases RepV.ro_cases r with ⟨a, cap, rfl, _⟩ | ⟨b, base, es, cap, c, t', fr, rfl, hF, hbk, hc, hcap, _⟩
      · simp at hb; omega
      · cases hx : xs[m.toNat]? with
        | none => simp [hx, Pg.run] at h
        | some z =>
          simp only [hx] at h
          have hes : z.cells.length = es := hc.len z (List.mem_of_getElem? hx)
          cases hz : Nat.beq z.cells.length n with
          | false => simp only [hz] at h; simp [Pg.run] at h
          | true =>
            simp only [hz, cond_true, Pg.run, Option.some.injEq, Prod.mk.injEq] at h
            obtain ⟨rfl, rfl⟩ := h
            have hen : es = n := by rw [← hes]; exact Nat.eq_of_beq_eq_true hz
            subst hen
            refine Post.same hi (run _ _ _ hb.1 hb.2) ?_
            rw [addr_add]
            exact .d _ _ (.rop xs m.toNat 0 b base es c t' fr hF hbk hc.len hc.fit hc.cell hc.rep)
    · simp [Pg.run] at h
  · rename_i id e0 off len
    split at h
    · rename_i hb
      simp only [Pg.run] at h
      cases hf : find st.rows id with
      | none => rw [hf] at h; simp at h
      | some row =>
        rw [hf] at h
        have fin : ∀ {b : Bool}, (bif b then (.ret (V.ptr id e0 (off + m.toNat) 0) : Pg V) else .fail).run st = some (y, st') → b = true ∧ y = .ptr id e0 (off + m.toNat) 0 ∧ st' = st := by
          intro b hh
          cases b with
          | false => simp [Pg.run] at hh
          | true =>
            simp only [cond_true, Pg.run, Option.some.injEq, Prod.mk.injEq] at hh
            exact ⟨rfl, hh.1.symm, hh.2.symm⟩
        cases r with
        | sl0 => simp at hb; omega
        | sl _ _ _ _ gb a hg he0 hfit ha =>
          have key : gb.es = n → y = .ptr id e0 (off + m.toNat) 0 → st' = st → Post P w F G st (Instr.indexAt t (.slice (some a) len (gb.cap - off)) (.int k' m)) y st' := by
            rintro rfl rfl rfl
            refine Post.same hi (run _ _ _ hb.1 hb.2) ?_
            rw [ha (by omega), addr_add]
            have := RepV.ptr (h := w.heap) (F := F) (G := G) id e0 (off + m.toNat) 0 gb hg
            rwa [show gb.base + (off + m.toNat) * gb.es + 0 = gb.base + off * gb.es + m.toNat * gb.es by rw [Nat.add_mul]; omega] at this
          have hrow := hi.row id row hf
          cases row with
          | cells e' t' xs =>
            obtain ⟨hh, h1, h2⟩ := fin h
            simp only [Bool.and_eq_true] at hh
            have e1 := Nat.eq_of_beq_eq_true hh.1
            have e2 := Nat.eq_of_beq_eq_true hh.2
            subst e1; subst e2
            exact key ((row_es hg he0 hn).1 xs hrow) h1 h2
          | fz e' t' xs =>
            obtain ⟨hh, h1, h2⟩ := fin h
            simp only [Bool.and_eq_true] at hh
            have e1 := Nat.eq_of_beq_eq_true hh.1
            have e2 := Nat.eq_of_beq_eq_true hh.2
            subst e1; subst e2
            exact key ((row_es hg he0 hn).2 xs hrow) h1 h2
          | _ => simp [Pg.run] at h
    · simp [Pg.run] at h
  · simp [Pg.run] at h

end
end Go.AM
namespace Go.AM
open Go

section
variable {P : Program}

/-- A part of elements that lie in a block. -/
theorem CellsAtD.sub {h : Array Obj} {F : Nat → Prop} {base es : Nat} {xs : List D} {c : Array Value} (hc : CellsAtD h F base es xs c) {l m : Nat} (hl : l ≤ m) (hm : m ≤ xs.length) :
    CellsAtD h F (base + l * es) es ((xs.take m).drop l) c := by
  have hsub : ∀ x ∈ (xs.take m).drop l, x ∈ xs := fun x hx => List.mem_of_mem_take (List.mem_of_mem_drop hx)
  have hlen : ((xs.take m).drop l).length = m - l := by simp; omega
  have hm2 : m * es ≤ xs.length * es := Nat.mul_le_mul_right es hm
  have hsplit : l * es + (m - l) * es = m * es := by rw [← Nat.add_mul]; congr 1; omega
  have hfit := hc.fit
  refine ⟨fun x hx => hc.len x (hsub x hx), fun x hx => hc.cell x (hsub x hx), by rw [hlen]; omega, ?_⟩
  intro k v u hv hu
  have h1 : ((xs.take l).flatMap D.cells).length = l * es := by
    rw [flat_len D.cells es _ (fun x hx => hc.len x (List.mem_of_mem_take hx))]; simp; rw [Nat.min_eq_left (by omega)]
  have h2 : (xs.flatMap D.cells)[l * es + k]? = some v := by
    have e1 : xs = xs.take l ++ ((xs.take m).drop l ++ xs.drop m) := by
      rw [List.drop_take, show xs.drop m = (xs.drop l).drop (m - l) by rw [List.drop_drop]; congr 1; omega, List.take_append_drop, List.take_append_drop]
    rw [e1, List.flatMap_append, List.flatMap_append, List.getElem?_append_right (by omega), h1, show l * es + k - l * es = k by omega,
      List.getElem?_append_left (lt_of_someL hv)]
    exact hv
  exact hc.rep (l * es + k) v u h2 (by rw [← Nat.add_assoc]; exact hu)

theorem slice_snd {w : World} {F : Nat → Prop} {G : Gh} {st st' : St} (hi : Inv P w F G st.rows st.next) {t e : TypeId} (ht : P.underlying t = some (.slice e)) {n : Nat} (hn : tySize P e = some n) {x y : V} {u : Value} {lo hi' : Option V} {ul uh : Option Value}
    (r : RepV w.heap F G x u) (rl : RepO w.heap F G lo ul) (rh : RepO w.heap F G hi' uh) (h : (sliceP e n x lo hi').run st = some (y, st')) : Post P w F G st (Instr.sliceAt t u ul uh none) y st' := by
  have run : ∀ (a : Option Addr) (len cap l m : Nat), boundOf len hi' = some m → boundOf 0 lo = some l → l ≤ m → m ≤ cap →
      (Instr.sliceAt t (.slice a len cap) ul uh none).run P w = .ok (.slice (if cap = l then a else a.map (·.add (l * n))) (m - l) (cap - l)) w := by
    intro a len cap l m h1 h2 h3 h4
    have hb := bounds_run (P := P) (isSlice := true) (cap := cap) rl rh h1 h2 h3 h4
    unfold Instr.sliceAt
    simp [und_run ht, Instr.slice, hb, size_run hn]
  unfold sliceP at h
  split at h
  · split at h
    · rename_i m l h1 h2
      split at h
      · rename_i hle
        simp only [Pg.run, Option.some.injEq, Prod.mk.injEq] at h
        obtain ⟨rfl, rfl⟩ := h
        have hm0 : m = 0 := by omega
        have hl0 : l = 0 := by omega
        subst hm0; subst hl0
        have key : ∀ a cap, u = .slice a 0 cap → RepV w.heap F G (.d .snil) u → Post P w F G st (Instr.sliceAt t u ul uh none) (.d .snil) st := by
          rintro a cap rfl rr
          refine Post.same hi (run a 0 cap 0 0 h1 h2 (by omega) (by omega)) ?_
          have : (if cap = 0 then a else a.map (·.add (0 * n))) = a := by
            split
            · rfl
            · cases a with
              | none => rfl
              | some a => cases a with | mk b o v => cases v <;> simp [Addr.add]
          rw [this]
          simpa using rr
        cases r.inv_d
        exact key _ _ rfl r
      · simp [Pg.run] at h
    · simp [Pg.run] at h
  · rename_i xs tight
    split at h
    · rename_i m l h1 h2
      split at h
      · rename_i hle
        -- what comes of it
        have fin : (l ≠ 0 → ∃ z, xs[0]? = some z ∧ z.cells.length = n) → y = .d (.ro ((xs.take m).drop l) (tight && Nat.beq m xs.length)) → st' = st → Post P w F G st (Instr.sliceAt t u ul uh none) y st' := by
          rintro hz rfl rfl
          rcases RepV.ro_cases r with ⟨a, cap, rfl, rfl, htc⟩ | ⟨b, base, es, cap, c, t', fr, rfl, hF, hbk, hc, hcap, htc⟩
          · simp only [List.length_nil] at hle
            have hm0 : m = 0 := by omega
            have hl0 : l = 0 := by omega
            subst hm0; subst hl0
            refine Post.same hi (run (some a) 0 cap 0 0 h1 h2 (by omega) (by omega)) ?_
            have : ∃ a', (if cap = 0 then some a else (some a).map (·.add (0 * n))) = some a' := by split <;> exact ⟨_, rfl⟩
            obtain ⟨a', ha'⟩ := this
            rw [ha']
            refine .d _ _ (.roe _ a' cap ?_)
            simpa using htc
          · refine Post.same hi (run _ xs.length cap l m h1 h2 hle.1 (by omega)) ?_
            have htight : (tight && Nat.beq m xs.length) = true → cap - l = m - l := by
              intro hh
              simp only [Bool.and_eq_true] at hh
              rw [htc hh.1, Nat.eq_of_beq_eq_true hh.2]
            by_cases hml : m = l
            · subst hml
              have hnil : (xs.take m).drop m = [] := by apply List.drop_eq_nil_of_le; simp; omega
              rw [hnil]
              have : ∃ a', (if cap = m then some ⟨b, base, none⟩ else (some (⟨b, base, none⟩ : Addr)).map (·.add (m * n))) = some a' := by split <;> exact ⟨_, rfl⟩
              obtain ⟨a', ha'⟩ := this
              rw [ha', Nat.sub_self]
              exact .d _ _ (.roe _ a' _ (fun hh => by have := htight hh; omega))
            · have hes : l = 0 ∨ es = n := by
                by_cases h0 : l = 0
                · exact .inl h0
                · obtain ⟨z, hz1, hz2⟩ := hz h0
                  exact .inr (by rw [← hz2, hc.len z (List.mem_of_getElem? hz1)])
              have haddr : (if cap = l then some (⟨b, base, none⟩ : Addr) else (some (⟨b, base, none⟩ : Addr)).map (·.add (l * n))) = some ⟨b, base + l * es, none⟩ := by
                rw [if_neg (by omega)]
                simp only [Option.map_some, addr_add]
                rcases hes with rfl | rfl
                · simp
                · rfl
              rw [haddr]
              have hs := hc.sub hle.1 hle.2
              have hlen : ((xs.take m).drop l).length = m - l := by simp; omega
              have := RepD.ro (h := w.heap) (F := F) ((xs.take m).drop l) (tight && Nat.beq m xs.length) b (base + l * es) es (cap - l) c t' fr hF hbk hs.len hs.fit hs.cell hs.rep (by omega)
                (fun hh => by rw [hlen]; exact htight hh)
              rw [hlen] at this
              exact .d _ _ this
        split at h
        · rename_i hl0
          subst hl0
          simp only [Pg.run, Option.some.injEq, Prod.mk.injEq] at h
          exact fin (fun hh => absurd rfl hh) (by simpa using h.1.symm) h.2.symm
        · split at h
          · simp [Pg.run] at h
          · rename_i z zs
            cases hz : Nat.beq z.cells.length n with
            | false => simp only [hz] at h; simp [Pg.run] at h
            | true =>
              simp only [hz, cond_true, Pg.run, Option.some.injEq, Prod.mk.injEq] at h
              exact fin (fun _ => ⟨z, rfl, Nat.eq_of_beq_eq_true hz⟩) h.1.symm h.2.symm
      · simp [Pg.run] at h
    · simp [Pg.run] at h
  · rename_i id e0 off len
    split at h
    · rename_i m l h1 h2
      split at h
      · rename_i hle
        have fin : (∀ gb, G id e0 = some gb → e0 ≠ 0 → l = 0 ∨ gb.es = n) → y = .sl id e0 (off + l) (m - l) → st' = st → Post P w F G st (Instr.sliceAt t u ul uh none) y st' := by
          rintro hes rfl rfl
          cases r with
          | sl0 =>
            have hm0 : m = 0 := by omega
            have hl0 : l = 0 := by omega
            subst hm0; subst hl0
            refine Post.same hi (run none 0 0 0 0 h1 h2 (by omega) (by omega)) ?_
            simpa using RepV.sl0 (h := w.heap) (F := F) (G := G) id
          | sl _ _ _ _ gb a hg he0 hfit ha =>
            refine Post.same hi (run (some a) len (gb.cap - off) l m h1 h2 hle.1 (by omega)) ?_
            have haddr : ∃ a', (if gb.cap - off = l then some a else (some a).map (·.add (l * n))) = some a' ∧ (gb.cap - (off + l) ≠ 0 → a' = ⟨gb.blk, gb.base + (off + l) * gb.es, none⟩) := by
              split
              · exact ⟨a, rfl, fun hh => by omega⟩
              · refine ⟨_, rfl, fun hh => ?_⟩
                rw [ha (by omega)]
                show Addr.add _ _ = _
                rw [addr_add]
                rcases hes gb hg he0 with rfl | rfl
                · simp
                · rw [Nat.add_mul, Nat.add_assoc]
            obtain ⟨a', ha1, ha2⟩ := haddr
            rw [ha1, show gb.cap - off - l = gb.cap - (off + l) by omega]
            exact .sl id e0 (off + l) (m - l) gb a' hg he0 (by omega) ha2
        split at h
        · rename_i hl0
          subst hl0
          simp only [Pg.run, Option.some.injEq, Prod.mk.injEq] at h
          exact fin (fun _ _ _ => .inl rfl) (by simpa using h.1.symm) h.2.symm
        · simp only [Pg.run] at h
          cases hf : find st.rows id with
          | none => rw [hf] at h; simp at h
          | some row =>
            rw [hf] at h
            have hrow := hi.row id row hf
            have fin2 : ∀ {b : Bool}, (bif b then (.ret (V.sl id e0 (off + l) (m - l)) : Pg V) else .fail).run st = some (y, st') → b = true ∧ y = .sl id e0 (off + l) (m - l) ∧ st' = st := by
              intro b hh
              cases b with
              | false => simp [Pg.run] at hh
              | true =>
                simp only [cond_true, Pg.run, Option.some.injEq, Prod.mk.injEq] at hh
                exact ⟨rfl, hh.1.symm, hh.2.symm⟩
            cases row with
            | cells e' t' xs =>
              obtain ⟨hh, q1, q2⟩ := fin2 h
              simp only [Bool.and_eq_true] at hh
              have e1 := Nat.eq_of_beq_eq_true hh.1
              have e2 := Nat.eq_of_beq_eq_true hh.2
              subst e1; subst e2
              exact fin (fun gb hg he0 => .inr ((row_es hg he0 hn).1 xs hrow)) q1 q2
            | fz e' t' xs =>
              obtain ⟨hh, q1, q2⟩ := fin2 h
              simp only [Bool.and_eq_true] at hh
              have e1 := Nat.eq_of_beq_eq_true hh.1
              have e2 := Nat.eq_of_beq_eq_true hh.2
              subst e1; subst e2
              exact fin (fun gb hg he0 => .inr ((row_es hg he0 hn).2 xs hrow)) q1 q2
            | _ => simp [Pg.run] at h
      · simp [Pg.run] at h
    · simp [Pg.run] at h
  · simp [Pg.run] at h

end
end Go.AM
namespace Go.AM
open Go

section
variable {P : Program} {w : World} {h : Array Obj} {F : Nat → Prop}

theorem eqCells_append (A B : List D) : ∀ (l m : List (Nat × KeyT)), eqCells A B (l ++ m) = match eqCells A B l with
    | some true => eqCells A B m
    | some false => some false
    | none => none
  | [], m => rfl
  | (i, k) :: l, m => by
    simp only [List.cons_append, eqCells]
    cases A[i]? with
    | none => rfl
    | some x =>
      cases B[i]? with
      | none => rfl
      | some y =>
        simp only []
        cases keyKind k x with
        | false => rfl
        | true =>
          simp only [cond_true]
          cases eqS x y with
          | none => rfl
          | some b => cases b with
            | false => rfl
            | true => simp only []; exact eqCells_append A B l m

/-- A struct's cells, or one cell, from off on. -/
def View (h : Array Obj) (F : Nat → Prop) (A : List D) (off : Nat) (l : List (Nat × KeyT)) (g : Bool) (u : Value) : Prop :=
  bif g then ∃ cs, u = .agg cs ∧ ∀ p ∈ l, off ≤ p.1 → ∀ x, A[p.1]? = some x → ∃ c, cs[p.1 - off]? = some c ∧ RepD h F x c
  else ∀ x, A[off]? = some x → RepD h F x u

/-- The type that a key's kind stands for. -/
def keyTy (P : Program) (t : TypeId) : KeyT → Prop
  | .bool => P.underlying t = some .bool
  | .int j => P.underlying t = some (.int j)
  | .str => P.underlying t = some .string

theorem eqS_run {t : TypeId} {d : Nat} {k : KeyT} {x y : D} {u v : Value} {r : Bool} (hk : keyKind k x = true)
    (ht : keyTy P t k)
    (hx : RepD h F x u) (hy : RepD h F y v) (he : eqS x y = some r) : (Op.equalIn (d + 1) t u v).run P w = .ok r w := by
  unfold eqS at he
  split at he
  · simp only [Option.some.injEq] at he; subst he
    cases hx; cases hy
    cases k <;> simp [keyKind] at hk
    exact run_equalIn_bool' w d t _ _ ht
  · rename_i k1 a k2 b
    split at he
    · rename_i hkk; subst hkk
      simp only [Option.some.injEq] at he; subst he
      cases hx; cases hy
      cases k <;> simp [keyKind] at hk
      exact run_equalIn_int w d t k1 _ a b ht
    · simp at he
  · rename_i a b
    simp only [Option.some.injEq] at he; subst he
    cases hx; cases hy
    cases k <;> simp [keyKind] at hk
    have := run_equalIn_string (P := P) w d t ⟨a.toArray⟩ ⟨b.toArray⟩ ht
    rw [toList_eq, toList_eq] at this
    exact this
  · simp at he

theorem leaves_run : ∀ (n : Nat) (t : TypeId) (off : Nat) (l : List (Nat × KeyT)) (g : Bool) (A B : List D) (u v : Value) (r : Bool), leavesOf P n t off = some l → tyAgg P t = some g →
    View h F A off l g u → View h F B off l g v → eqCells A B l = some r → ∀ d, n ≤ d → (Op.equalIn d t u v).run P w = .ok r w
  | 0, t, off, l, g, A, B, u, v, r, hl, _, _, _, _, _, _ => by simp [leavesOf] at hl
  | n + 1, t, off, l, g, A, B, u, v, r, hl, hg, hA, hB, he, d, hd => by
    obtain ⟨d, rfl⟩ : ∃ d', d = d' + 1 := ⟨d - 1, by omega⟩
    have leaf : ∀ k : KeyT, g = false → l = [(off, k)] → keyTy P t k →
        (Op.equalIn (d + 1) t u v).run P w = .ok r w := by
      rintro k rfl rfl ht
      simp only [eqCells] at he
      cases hx : A[off]? with
      | none => rw [hx] at he; simp at he
      | some x =>
        cases hy : B[off]? with
        | none => rw [hx, hy] at he; simp at he
        | some y =>
          simp only [hx, hy] at he
          cases hk : keyKind k x with
          | false => rw [hk] at he; simp at he
          | true =>
            rw [hk] at he
            simp only [cond_true] at he
            refine eqS_run hk ht (hA x hx) (hB y hy) ?_
            cases hs : eqS x y with
            | none => rw [hs] at he; simp at he
            | some b => rw [hs] at he; cases b <;> simpa using he
    unfold leavesOf at hl
    unfold tyAgg at hg
    cases hu : P.underlying t with
    | none => rw [hu] at hl; simp at hl
    | some td =>
      rw [hu] at hl hg
      cases td <;> simp only [Option.some.injEq] at hl hg <;> try (simp at hl; done)
      · exact leaf .bool hg.symm hl.symm hu
      · exact leaf (.int _) hg.symm hl.symm hu
      · exact leaf .str hg.symm hl.symm hu
      · rename_i fs
        subst hg
        split at hl
        · simp at hl
        · rename_i hst
          obtain ⟨cs, rfl, hcs⟩ := hA
          obtain ⟨ds, rfl, hds⟩ := hB
          have hfo : P.underlying t = some (.struct (P.fieldsOf t)) := by simp [Program.fieldsOf, hu]
          rw [run_equalIn_struct w d t cs ds hfo (by simpa using hst)]
          have : (P.fieldsOf t).toList = fs.toList := by simp [Program.fieldsOf, hu]
          rw [this]
          clear this hfo hst
          generalize fs.toList = fl at hl
          clear leaf
          induction fl generalizing l r with
          | nil =>
            simp [leavesFs] at hl; subst hl
            simp [eqCells] at he; subst he
            simp [Op.eqFields]
          | cons f fl ihf =>
            simp only [leavesFs] at hl
            simp only [Op.eqFields, Sem.run_ite]
            by_cases hn : f.name = "_"
            · rw [if_pos hn] at hl
              rw [if_neg (by simpa using hn)]
              exact ihf l r he hcs hds hl
            · rw [if_neg hn] at hl
              rw [if_pos hn]
              cases h1 : leavesOf P n f.type (off + f.offset) with
              | none => simp [h1] at hl
              | some a =>
                cases h2 : tySize P f.type with
                | none => simp [h1, h2] at hl
                | some m =>
                  cases h3 : leavesFs P (leavesOf P n) off fl with
                  | none => simp [h1, h2, h3] at hl
                  | some b =>
                    simp only [h1, h2, h3] at hl
                    cases hall : a.all (fun p => Nat.ble (off + f.offset) p.1 && Nat.blt p.1 (off + f.offset + m)) with
                    | false => rw [hall] at hl; simp at hl
                    | true =>
                      rw [hall] at hl
                      simp only [cond_true, Option.some.injEq] at hl
                      subst hl
                      have hrange : ∀ p ∈ a, off + f.offset ≤ p.1 ∧ p.1 < off + f.offset + m := by
                        intro p hp
                        have := List.all_eq_true.1 hall p hp
                        simpa using this
                      -- the field's type is scalar or a struct
                      obtain ⟨g', hg'⟩ : ∃ g', tyAgg P f.type = some g' := by
                        cases n with
                        | zero => simp [leavesOf] at h1
                        | succ n =>
                          unfold leavesOf at h1
                          unfold tyAgg
                          cases hfu : P.underlying f.type with
                          | none => rw [hfu] at h1; simp at h1
                          | some td => cases td <;> exact ⟨_, rfl⟩
                      have hscal : g' = false → ∃ k, a = [(off + f.offset, k)] := by
                        rintro rfl
                        cases n with
                        | zero => simp [leavesOf] at h1
                        | succ n =>
                          unfold leavesOf at h1
                          unfold tyAgg at hg'
                          cases hfu : P.underlying f.type with
                          | none => rw [hfu] at h1; simp at h1
                          | some td =>
                            rw [hfu] at h1 hg'
                            cases td <;> simp only [Option.some.injEq, Bool.true_eq_false] at h1 hg' <;> first | exact ⟨_, h1.symm⟩ | (simp at h1; done)
                      rw [eqCells_append] at he
                      cases hea : eqCells A B a with
                      | none => rw [hea] at he; simp at he
                      | some ra =>
                        rw [hea] at he
                        -- a part of one side
                        have side : ∀ (C : List D) (xs : Array Value), (∀ p ∈ a ++ b, off ≤ p.1 → ∀ x, C[p.1]? = some x → ∃ c, xs[p.1 - off]? = some c ∧ RepD h F x c) → (g' = false → ∃ x, C[off + f.offset]? = some x) →
                            ∃ z, (part f.type xs f.offset).run P w = .ok z w ∧ View h F C (off + f.offset) a g' z := by
                          intro C xs hxs hex
                          unfold part
                          simp only [Sem.run_bind, agg_run hg', Result.andThen_ok]
                          cases g' with
                          | true =>
                            refine ⟨.agg (xs.extract f.offset (f.offset + m)), by simp [size_run h2], xs.extract f.offset (f.offset + m), rfl, ?_⟩
                            intro p hp hle x hx
                            obtain ⟨q1, q2⟩ := hrange p hp
                            obtain ⟨c, c1, c2⟩ := hxs p (List.mem_append.2 (.inl hp)) (by omega) x hx
                            refine ⟨c, ?_, c2⟩
                            have hlt := lt_of_some c1
                            rw [Array.getElem?_extract, if_pos (by omega), show f.offset + (p.1 - (off + f.offset)) = p.1 - off by omega]
                            exact c1
                          | false =>
                            obtain ⟨k, rfl⟩ := hscal rfl
                            obtain ⟨x, hx⟩ := hex rfl
                            obtain ⟨c, c1, c2⟩ := hxs (off + f.offset, k) (by simp) (by simp) x hx
                            simp only [show off + f.offset - off = f.offset by omega] at c1
                            refine ⟨c, by simp [c1], ?_⟩
                            intro x' hx'
                            rw [hx] at hx'
                            simp only [Option.some.injEq] at hx'
                            subst hx'
                            exact c2
                        have ex2 : g' = false → (∃ x, A[off + f.offset]? = some x) ∧ ∃ y, B[off + f.offset]? = some y := by
                          intro hgf
                          obtain ⟨k, rfl⟩ := hscal hgf
                          simp only [eqCells] at hea
                          cases hx : A[off + f.offset]? with
                          | none => rw [hx] at hea; simp at hea
                          | some x =>
                            cases hy : B[off + f.offset]? with
                            | none => rw [hx, hy] at hea; simp at hea
                            | some y => exact ⟨⟨x, rfl⟩, ⟨y, rfl⟩⟩
                        obtain ⟨z1, z1r, z1v⟩ := side A cs hcs (fun hh => (ex2 hh).1)
                        obtain ⟨z2, z2r, z2v⟩ := side B ds hds (fun hh => (ex2 hh).2)
                        have hrec := leaves_run n f.type (off + f.offset) a g' A B z1 z2 ra h1 hg' z1v z2v hea d (by omega)
                        simp only [Sem.run_bind, z1r, z2r, hrec, Result.andThen_ok]
                        cases ra with
                        | false =>
                          simp only [Option.some.injEq] at he
                          subst he
                          simp
                        | true =>
                          simp only at he
                          simp only [Bool.not_true, Bool.false_eq_true, if_false]
                          exact ihf b r he (fun p hp => hcs p (List.mem_append.2 (.inr hp))) (fun p hp => hds p (List.mem_append.2 (.inr hp))) h3

end
end Go.AM
namespace Go.AM
open Go

section
variable {P : Program} {w : World} {F : Nat → Prop} {G : Gh}

def plainV : Value → Prop
  | .int _ _ => False
  | .float _ _ => False
  | .complex _ _ _ => False
  | .string _ => False
  | _ => True

theorem eql_plain {t : TypeId} {u v : Value} (h : plainV u) : binOp .eql t u v = (do pure (.bool (← Op.equal t u v))) := by
  cases u <;> first | rfl | exact h.elim

theorem neq_plain {t : TypeId} {u v : Value} (h : plainV u) : binOp .neq t u v = (do pure (.bool (!(← Op.equal t u v)))) := by
  cases u <;> first | rfl | exact h.elim

theorem guard_run {op : BinOp} {t : TypeId} {ox oy : Operand} {u v : Value} (h1 : u = .nilIface → v = .nilIface → (isConstO ox || isConstO oy) = true)
    (h2 : ∀ a b, u = .agg a → v = .agg b → P.eqGuardType P.depth t = false) : (eqGuard op t ox oy u v).run P w = .ok () w := by
  have go : (op = .eql ∨ op = .neq) → (eqGuard op t ox oy u v).run P w = .ok () w := by
    intro ho
    by_cases hnil : u = .nilIface ∧ v = .nilIface
    · obtain ⟨rfl, rfl⟩ := hnil
      have := h1 rfl rfl
      rcases ho with rfl | rfl <;> cases ox <;> cases oy <;> simp_all [eqGuard, isConstO]
    · by_cases hagg : (∃ a, u = .agg a) ∧ ∃ b, v = .agg b
      · obtain ⟨⟨a, rfl⟩, b, rfl⟩ := hagg
        have := h2 a b rfl rfl
        exact run_eqGuard_agg w op t ox oy a b this
      · cases u <;> cases v <;> first
          | exact absurd ⟨rfl, rfl⟩ hnil
          | exact absurd ⟨⟨_, rfl⟩, _, rfl⟩ hagg
          | (rcases ho with rfl | rfl <;> simp [eqGuard])
  cases op <;> first | exact go (.inl rfl) | exact go (.inr rfl) | simp [eqGuard]

theorem eq_nilifc {t : TypeId} {m : Array (String × TypeId)} (hm : P.underlying t = some (.interface m)) (d : Nat) : (Op.equalIn (d + 1) t .nilIface .nilIface).run P w = .ok true w := by
  simp [Op.equalIn, und_run hm]

theorem eq_same {t e : TypeId} {n : Nat} (hu : P.underlying t = some (.pointer e)) (hs : tySize P e = some n) (h0 : n ≠ 0) (d : Nat) (a : Addr) :
    (Op.equalIn (d + 1) t (.pointer (some a)) (.pointer (some a))).run P w = .ok true w := by
  simp [Op.equalIn, und_run hu, size_run hs, h0, sameAddr]

theorem vEq_snd {t : TypeId} {x y : V} {ux uy : Value} {b : Bool} (rx : RepV w.heap F G x ux) (ry : RepV w.heap F G y uy) (hn : ¬ (x = .d .inil ∧ y = .d .inil)) (h : vEq (eqTOf P t) x y = some b) :
    plainV ux ∧ (Op.equal t ux uy).run P w = .ok b w ∧ (ux = .nilIface → uy = .nilIface → False) ∧ (∀ p q, ux = .agg p → uy = .agg q → P.eqGuardType P.depth t = false) := by
  unfold eqTOf at h
  cases hu : P.underlying t with
  | none => rw [hu] at h; simp [vEq] at h
  | some td =>
    rw [hu] at h
    cases td <;> simp only at h <;> try (simp [vEq] at h; done)
    · -- bool
      unfold vEq at h
      split at h <;> first | contradiction | skip
      simp only [Option.some.injEq] at h; subst h
      cases rx.inv_d; cases ry.inv_d
      exact ⟨trivial, run_equalIn_bool' w 9999 t _ _ hu, fun e => by simp at e, fun p q e => by simp at e⟩
    · -- pointer
      rename_i e
      cases hs : tySize P e with
      | none => simp [hs, vEq] at h
      | some n =>
        simp only [hs] at h
        split at h
        · simp [vEq] at h
        · rename_i h0
          unfold vEq at h
          split at h <;> try contradiction
          · obtain ⟨a, rfl, rfl⟩ := nilPtr_spec ry h
            cases rx.inv_d
            exact ⟨trivial, (eq_ptr hu 9999 a).2, fun e => by simp at e, fun p q e => by simp at e⟩
          · obtain ⟨a, rfl, rfl⟩ := nilPtr_spec rx h
            cases ry.inv_d
            exact ⟨trivial, (eq_ptr hu 9999 a).1, fun e => by simp at e, fun p q e => by simp at e⟩
          · rename_i a e1 i o a' e' i' o' _
            cases hb : (Nat.beq a a' && Nat.beq e1 e' && Nat.beq i i' && Nat.beq o o') with
            | false => rw [hb] at h; simp at h
            | true =>
              rw [hb] at h
              simp only [cond_true, Option.some.injEq] at h
              subst h
              simp only [Bool.and_eq_true] at hb
              have q1 := Nat.eq_of_beq_eq_true hb.1.1.1
              have q2 := Nat.eq_of_beq_eq_true hb.1.1.2
              have q3 := Nat.eq_of_beq_eq_true hb.1.2
              have q4 := Nat.eq_of_beq_eq_true hb.2
              subst q1; subst q2; subst q3; subst q4
              obtain ⟨gb, hg, rfl⟩ := lookGhost rx
              obtain ⟨gb', hg', rfl⟩ := lookGhost ry
              rw [hg] at hg'
              simp only [Option.some.injEq] at hg'
              subst hg'
              refine ⟨trivial, ?_, fun e => by simp at e, fun p q e => by simp at e⟩
              exact eq_same hu hs h0 9999 _
    · -- slice
      have hp : plainV ux ∧ ux ≠ .nilIface ∧ ∀ p, ux ≠ .agg p := by
        unfold vEq at h
        split at h <;> try contradiction
        · cases rx.inv_d; exact ⟨trivial, by simp, by simp⟩
        · obtain ⟨a, l, c, rfl, _⟩ := nilSl_spec rx h; exact ⟨trivial, by simp, by simp⟩
      exact ⟨hp.1, vEq_sl hu 9999 rx ry h, fun e => absurd e hp.2.1, fun p q e => absurd e (hp.2.2 p)⟩
    · -- map
      have hp : plainV ux ∧ ux ≠ .nilIface ∧ ∀ p, ux ≠ .agg p := by
        unfold vEq at h
        split at h <;> try contradiction
        · cases rx.inv_d; exact ⟨trivial, by simp, by simp⟩
        · obtain ⟨a, rfl, _⟩ := nilMap_spec rx h; exact ⟨trivial, by simp, by simp⟩
      exact ⟨hp.1, vEq_map hu 9999 rx ry h, fun e => absurd e hp.2.1, fun p q e => absurd e (hp.2.2 p)⟩
    · -- struct
      split at h
      · simp [vEq] at h
      · rename_i hgt
        cases hl : leavesOf P 8 t 0 with
        | none => simp [hl, vEq] at h
        | some l =>
          simp only [hl] at h
          unfold vEq at h
          split at h <;> try contradiction
          rename_i l' a c heq
          simp only [EqT.struct.injEq] at heq
          subst heq
          have hag : tyAgg P t = some true := by unfold tyAgg; rw [hu]
          have view : ∀ (A : List D) (u : Value), RepV w.heap F G (.d (.agg A)) u → View w.heap F A 0 l true u ∧ ∃ p, u = .agg p := by
            intro A u r
            cases r.inv_d with
            | agg _ cs hq hs hr =>
              refine ⟨⟨cs, rfl, ?_⟩, cs, rfl⟩
              intro p _ _ x hx
              have := RepDs.get ⟨hs, hr⟩ hx
              simpa using this
          obtain ⟨va, pa, rfl⟩ := view a ux rx
          obtain ⟨vc, pc, rfl⟩ := view c uy ry
          exact ⟨trivial, leaves_run 8 t 0 l true a c _ _ b hl hag va vc h 10000 (by omega), fun e => by simp at e, fun p q _ _ => by simpa using hgt⟩
    · -- func
      have hp : plainV ux ∧ ux ≠ .nilIface ∧ ∀ p, ux ≠ .agg p := by
        unfold vEq at h
        split at h <;> try contradiction
        · cases rx.inv_d; exact ⟨trivial, by simp, by simp⟩
        · rcases nilFn_spec rx h with ⟨_, rfl⟩ | ⟨_, f, p, q, rfl⟩ <;> exact ⟨trivial, by simp, by simp⟩
      exact ⟨hp.1, vEq_fn hu ⟨_, _, _, rfl⟩ 9999 rx ry h, fun e => absurd e hp.2.1, fun p q e => absurd e (hp.2.2 p)⟩
    · -- interface
      have hrun := vEq_ifc hu ⟨_, rfl⟩ 9999 rx ry h
      unfold vEq at h
      split at h <;> try contradiction
      · rcases nilIfc_spec ry h with ⟨rfl, rfl⟩ | ⟨rfl, p, q, rfl⟩
        · exfalso
          unfold nilIfc at h
          split at h <;> simp at h
          exact hn ⟨rfl, rfl⟩
        · cases rx.inv_d
          exact ⟨trivial, hrun, fun _ e => by simp at e, fun p q e => by simp at e⟩
      · rcases nilIfc_spec rx h with ⟨rfl, rfl⟩ | ⟨rfl, p, q, rfl⟩
        · exfalso
          unfold nilIfc at h
          split at h <;> simp at h
          exact hn ⟨rfl, rfl⟩
        · exact ⟨trivial, hrun, fun e => by simp at e, fun p q e => by simp at e⟩

theorem isIfc_spec {t : TypeId} (h : isIfc (eqTOf P t) = true) : ∃ m, P.underlying t = some (.interface m) := by
  unfold eqTOf at h
  cases hu : P.underlying t with
  | none => rw [hu] at h; simp [isIfc] at h
  | some td =>
    rw [hu] at h
    cases td <;> simp only at h <;> first
      | exact ⟨_, rfl⟩
      | (simp [isIfc] at h; done)
      | skip
    · split at h
      · split at h <;> simp [isIfc] at h
      · simp [isIfc] at h
    · split at h
      · simp [isIfc] at h
      · split at h <;> simp [isIfc] at h

theorem nilnil {a b : Bool} {r v : V} (h : (bif a && b then some r else none) = some v) : a = true ∧ b = true ∧ r = v := by
  cases a <;> cases b <;> simp at h
  exact ⟨rfl, rfl, h⟩

theorem vBin_snd {op : BinOp} {t : TypeId} {ox oy : Operand} {x y v : V} {ux uy : Value} (rx : RepV w.heap F G x ux) (ry : RepV w.heap F G y uy)
    (h : vBin op (eqTOf P t) (isConstO ox || isConstO oy) x y = some v) : PureOk P w F G (do eqGuard op t ox oy ux uy; binOp op t ux uy) v := by
  have pre : (eqGuard op t ox oy ux uy).run P w = .ok () w → PureOk P w F G (binOp op t ux uy) v → PureOk P w F G (do eqGuard op t ox oy ux uy; binOp op t ux uy) v := by
    rintro h1 ⟨u, h2, h3⟩
    exact ⟨u, by simp [h1, h2], h3⟩
  unfold vBin at h
  split at h
  · rename_i k a j b
    cases hz : vShift .shl k a b with
    | none => rw [hz] at h; simp at h
    | some z =>
      rw [hz] at h
      simp only [Option.some.injEq] at h
      subst h
      cases rx.inv_d; cases ry.inv_d
      exact pre (guard_run (fun e => by simp at e) (fun p q e => by simp at e)) (shift_snd (.inl rfl) hz)
  · rename_i k a j b
    cases hz : vShift .shr k a b with
    | none => rw [hz] at h; simp at h
    | some z =>
      rw [hz] at h
      simp only [Option.some.injEq] at h
      subst h
      cases rx.inv_d; cases ry.inv_d
      exact pre (guard_run (fun e => by simp at e) (fun p q e => by simp at e)) (shift_snd (.inr rfl) hz)
  · rename_i k a j b _ _
    split at h
    · rename_i hkj; subst hkj
      cases hz : intOp op k a b with
      | none => rw [hz] at h; simp at h
      | some z =>
        rw [hz] at h
        simp only [Option.some.injEq] at h
        subst h
        cases rx.inv_d; cases ry.inv_d
        exact pre (guard_run (fun e => by simp at e) (fun p q e => by simp at e)) (intOp_snd hz)
    · simp at h
  · rename_i a b
    cases hz : strOp op a b with
    | none => rw [hz] at h; simp at h
    | some z =>
      rw [hz] at h
      simp only [Option.some.injEq] at h
      subst h
      cases rx.inv_d; cases ry.inv_d
      refine pre (guard_run (fun e => by simp at e) (fun p q e => by simp at e)) (strOp_snd ?_ hz)
      constructor <;> rintro rfl <;> simp [strOp] at hz
  · obtain ⟨h1, h2, rfl⟩ := nilnil h
    cases rx.inv_d; cases ry.inv_d
    refine pre (guard_run (fun _ _ => h1) (fun p q e => by simp at e)) ⟨.bool true, ?_, .d _ _ (.bool _)⟩
    obtain ⟨m, hm⟩ := isIfc_spec h2
    rw [eql_plain (u := .nilIface) trivial]
    have : (Op.equal t .nilIface .nilIface).run P w = .ok true w := eq_nilifc hm 9999
    simp [this]
  · obtain ⟨h1, h2, rfl⟩ := nilnil h
    cases rx.inv_d; cases ry.inv_d
    refine pre (guard_run (fun _ _ => h1) (fun p q e => by simp at e)) ⟨.bool false, ?_, .d _ _ (.bool _)⟩
    obtain ⟨m, hm⟩ := isIfc_spec h2
    rw [neq_plain (u := .nilIface) trivial]
    have : (Op.equal t .nilIface .nilIface).run P w = .ok true w := eq_nilifc hm 9999
    simp [this]
  · cases he : vEq (eqTOf P t) x y with
    | none => rw [he] at h; simp at h
    | some b =>
      rw [he] at h
      simp only [Option.some.injEq] at h
      subst h
      obtain ⟨h1, h2, h3, h4⟩ := vEq_snd rx ry (by rintro ⟨rfl, rfl⟩; simp_all) he
      refine pre (guard_run (fun a b => (h3 a b).elim) h4) ⟨.bool b, ?_, .d _ _ (.bool _)⟩
      rw [eql_plain h1]
      simp [h2]
  · cases he : vEq (eqTOf P t) x y with
    | none => rw [he] at h; simp at h
    | some b =>
      rw [he] at h
      simp only [Option.some.injEq] at h
      subst h
      obtain ⟨h1, h2, h3, h4⟩ := vEq_snd rx ry (by rintro ⟨rfl, rfl⟩; simp_all) he
      refine pre (guard_run (fun a b => (h3 a b).elim) h4) ⟨.bool (!b), ?_, .d _ _ (.bool _)⟩
      rw [neq_plain h1]
      simp [h2]
  · simp at h

end
end Go.AM
namespace Go.AM
open Go

def AggLike (x : V) : Prop := (∃ cs, x = .d (.agg cs)) ∨ ∃ cs, x = .agg cs

theorem mkAgg_like (l : List V) : AggLike (mkAgg l) ∧ (mkAgg l).cells = l := by
  refine ⟨?_, mkAgg_cells l⟩
  unfold mkAgg
  split
  · exact .inl ⟨_, rfl⟩
  · exact .inr ⟨_, rfl⟩

section
variable {P : Program}

/-- The arguments' places and values, for struct or array literals. -/
inductive BParts (h : Array Obj) (F : Nat → Prop) (G : Gh) (s : List V) (place : Nat → Option (Nat × Nat)) (N : Nat) : List (Nat × Nat × CO) → List (Nat × Value) → Prop
  | nil : BParts h F G s place N [] []
  | cons (i off k : Nat) (o : CO) (v : V) (u : Value) (l : List (Nat × Nat × CO)) (l' : List (Nat × Value)) (ha : arg s o = some v) (r : RepV h F G v u) (hp : place i = some (off, k)) (hk : k ≠ 0) (hle : off + k ≤ N)
      (hl : BParts h F G s place N l l') : BParts h F G s place N ((off, k, o) :: l) ((i, u) :: l')

theorem build_fill {h : Array Obj} {F : Nat → Prop} {G : Gh} {s : List V} {place : Nat → Option (Nat × Nat)} {N : Nat} : ∀ {l : List (Nat × Nat × CO)} {l' : List (Nat × Value)} (_ : BParts h F G s place N l l') {x y : V} {c : Array Value}
    (_ : AggLike x) (_ : Reps h F G x.cells c) (_ : ∀ z ∈ x.cells, z.isCell = true) (_ : x.cells.length = N) (_ : buildV s x l = some y),
    ∃ c', Instr.fill place c l' = some c' ∧ AggLike y ∧ Reps h F G y.cells c' ∧ ∀ z ∈ y.cells, z.isCell = true := by
  intro l l' hp
  induction hp with
  | nil =>
    intro x y c hx hr hc _ hb
    simp only [buildV, Option.some.injEq] at hb
    subst hb
    exact ⟨c, rfl, hx, hr, hc⟩
  | cons i off k o v u l l' ha r hpl hk hle _ ih =>
    intro x y c hx hr hc hN hb
    simp only [buildV, ha] at hb
    cases hl : Nat.beq v.cells.length k with
    | false => rw [hl] at hb; simp at hb
    | true =>
      rw [hl] at hb
      simp only [cond_true] at hb
      have hl' := Nat.eq_of_beq_eq_true hl
      have hne : v.cells ≠ [] := by intro hh; rw [hh] at hl'; simp at hl'; omega
      have rc := r.cells hne
      have hsz : u.cells.size = k := by rw [rc.1, hl']
      have hsp : vSplice x off v.cells = mkAgg (x.cells.take off ++ v.cells ++ x.cells.drop (off + k)) := by
        rw [← hl']
        rcases hx with ⟨cs, rfl⟩ | ⟨cs, rfl⟩ <;> rfl
      obtain ⟨m1, m2⟩ := mkAgg_like (x.cells.take off ++ v.cells ++ x.cells.drop (off + k))
      rw [← hsp] at m1 m2
      have hcs : c.size = N := by rw [hr.1, hN]
      have hpf : off + u.cells.toList.length ≤ c.size := by simp; omega
      have hr' : Reps h F G (vSplice x off v.cells).cells (patch c off u.cells.toList) := by
        rw [m2]
        refine ⟨by simp; omega, ?_⟩
        intro j z q hz hq
        rw [splice_get (by omega) hl'] at hz
        rw [patch_get c _ _ hpf] at hq
        simp only [Array.length_toList, hsz] at hq
        split at hz
        · rename_i hj
          rw [if_pos hj] at hq
          exact rc.2 (j - off) z q hz (by simpa using hq)
        · rename_i hj
          rw [if_neg hj] at hq
          exact hr.2 j z q hz hq
      have hc' : ∀ z ∈ (vSplice x off v.cells).cells, z.isCell = true := by
        rw [m2]
        intro z hz
        simp only [List.mem_append] at hz
        rcases hz with (hz | hz) | hz
        · exact hc z (List.mem_of_mem_take hz)
        · exact V.cells_isCell r z hz
        · exact hc z (List.mem_of_mem_drop hz)
      obtain ⟨c', q1, q2⟩ := ih m1 hr' hc' (by rw [m2]; simp; omega) hb
      refine ⟨c', ?_, q2⟩
      unfold Instr.fill
      simp only [hpl, hsz, ne_eq, not_true_eq_false, decide_false, Bool.false_or]
      rw [if_neg (by simp; omega), fold_patchA]
      exact q1

theorem AggLike.rep {h : Array Obj} {F : Nat → Prop} {G : Gh} {y : V} {c : Array Value} (hy : AggLike y) (hr : Reps h F G y.cells c) (hc : ∀ z ∈ y.cells, z.isCell = true) : RepV h F G y (.agg c) := by
  rcases hy with ⟨cs, rfl⟩ | ⟨cs, rfl⟩
  · have := Reps.toD (ds := cs) hr
    refine .d _ _ (.agg cs c ?_ this.1 this.2)
    intro z hz
    exact hc (.d z) (by simp [V.cells, D.cells, hz])
  · exact .agg cs c hc hr.1 hr.2

theorem tyZero_spec {t : TypeId} {z : D} (e : tyZero P t = some z) : ∃ i zv, P.info? t = some i ∧ i.zero = some zv ∧ ∀ h F, RepD h F z zv := by
  unfold tyZero at e
  cases hi : P.info? t with
  | none => rw [hi] at e; simp at e
  | some i =>
    rw [hi] at e
    simp only at e
    cases hz : i.zero with
    | none => rw [hz] at e; simp at e
    | some zv =>
      rw [hz] at e
      exact ⟨i, zv, rfl, hz, fun h F => ofValue_rep e⟩

/-- Where a struct's fields lie. -/
theorem places_of : ∀ (fs : List Field), fs.all (fun f => (tySize P f.type).isSome) = true →
    ∃ places, fs.mapM (fun f => (P.info? f.type).map fun i => (f.offset, i.size)) = some places ∧ ∀ (i : Nat) (f : Field) (k : Nat), fs[i]? = some f → tySize P f.type = some k → places[i]? = some (f.offset, k)
  | [], _ => ⟨[], rfl, fun i f k h _ => by simp at h⟩
  | f :: fs, h => by
    simp only [List.all_cons, Bool.and_eq_true] at h
    obtain ⟨places, h1, h2⟩ := places_of fs h.2
    unfold tySize at h
    cases hi : P.info? f.type with
    | none => rw [hi] at h; simp at h
    | some i =>
      refine ⟨(f.offset, i.size) :: places, by simp [List.mapM_cons, hi, h1], ?_⟩
      intro j f' k hj hk
      cases j with
      | zero =>
        simp at hj; subst hj
        unfold tySize at hk
        rw [hi] at hk
        simp at hk
        simp [hk]
      | succ j => simpa using h2 j f' k (by simpa using hj) hk

theorem build_struct_snd {w : World} {F : Nat → Prop} {G : Gh} {s : List V} {t : TypeId} {zs : List D} {fs : Array Field} (hz : tyZero P t = some (.agg zs)) (hu : P.underlying t = some (.struct fs))
    (hall : fs.toList.all (fun f => (tySize P f.type).isSome) = true) {l : List (Nat × Nat × CO)} {parts : Array (Nat × Value)} {y : V}
    (hp : BParts w.heap F G s (fun i => match fs[i]? with | some f => (tySize P f.type).map fun k => (f.offset, k) | none => none) zs.length l parts.toList) (hb : buildV s (.d (.agg zs)) l = some y) :
    PureOk P w F G (Instr.build t parts) y := by
  obtain ⟨i, zv, hi, hzv, hrep⟩ := tyZero_spec hz
  obtain ⟨places, hpl, hpl2⟩ := places_of fs.toList hall
  have hr := hrep w.heap F
  cases hr with
  | agg _ cs' hq hs hr =>
    have hR : Reps w.heap F G (V.d (.agg zs)).cells cs' := by
      have := RepDs.toV (G := G) (⟨hs, hr⟩ : RepDs w.heap F zs cs')
      exact this
    -- the same places
    have hp' : BParts w.heap F G s (places.toArray[·]?) zs.length l parts.toList := by
      clear hb
      generalize parts.toList = pl at hp
      induction hp with
      | nil => exact .nil
      | cons i off k o v u l l' ha r hpp hk hle _ ih =>
        refine .cons i off k o v u l l' ha r ?_ hk hle ih
        cases hf : fs[i]? with
        | none => simp [hf] at hpp
        | some f =>
          rw [hf] at hpp
          simp only at hpp
          cases hts : tySize P f.type with
          | none => rw [hts] at hpp; simp at hpp
          | some k' =>
            rw [hts] at hpp
            simp at hpp
            obtain ⟨rfl, rfl⟩ := hpp
            simpa using hpl2 i f k' (by simpa using hf) hts
    obtain ⟨c', q1, q2, q3, q4⟩ := build_fill hp' (.inl ⟨zs, rfl⟩) hR (by
      intro z hz'
      simp only [V.cells, D.cells, List.mem_map] at hz'
      obtain ⟨q, hq1, rfl⟩ := hz'
      exact hq q hq1) (by simp [V.cells, D.cells]) hb
    refine ⟨.agg c', run_build w t parts c' ?_, q2.rep q3 q4⟩
    unfold Program.built
    simp only [hi, hu, hzv, hpl]
    exact q1

theorem build_array_snd {w : World} {F : Nat → Prop} {G : Gh} {s : List V} {t e : TypeId} {n k : Nat} {zs : List D} (hz : tyZero P t = some (.agg zs)) (hu : P.underlying t = some (.array n e))
    (hk : tySize P e = some k) {l : List (Nat × Nat × CO)} {parts : Array (Nat × Value)} {y : V}
    (hp : BParts w.heap F G s (fun i => some (i * k, k)) zs.length l parts.toList) (hb : buildV s (.d (.agg zs)) l = some y) :
    PureOk P w F G (Instr.build t parts) y := by
  obtain ⟨i, zv, hi, hzv, hrep⟩ := tyZero_spec hz
  have hr := hrep w.heap F
  cases hr with
  | agg _ cs' hq hs hr =>
    have hR : Reps w.heap F G (V.d (.agg zs)).cells cs' := RepDs.toV (G := G) (⟨hs, hr⟩ : RepDs w.heap F zs cs')
    obtain ⟨c', q1, q2, q3, q4⟩ := build_fill hp (.inl ⟨zs, rfl⟩) hR (by
      intro z hz'
      simp only [V.cells, D.cells, List.mem_map] at hz'
      obtain ⟨q, hq1, rfl⟩ := hz'
      exact hq q hq1) (by simp [V.cells, D.cells]) hb
    refine ⟨.agg c', run_build w t parts c' ?_, q2.rep q3 q4⟩
    unfold tySize at hk
    cases hie : P.info? e with
    | none => rw [hie] at hk; simp at hk
    | some ie =>
      rw [hie] at hk
      simp at hk
      subst hk
      unfold Program.built
      simp only [hi, hu, hzv, hie]
      exact q1

end

section
variable {P : Program} {w : World} {F : Nat → Prop} {G : Gh}

theorem mx2_snd {b : Bool} {x y v : V} {ux uy : Value} (rx : RepV w.heap F G x ux) (ry : RepV w.heap F G y uy) (h : mxV b x y = some v) : PureOk P w F G (bif b then Builtin.max2 ux uy else Builtin.min2 ux uy) v := by
  unfold mxV at h
  split at h
  · simp only [Option.some.injEq] at h; subst h
    cases rx.inv_d; cases ry.inv_d
    cases b
    · exact PureOk.d (by simp [Builtin.min2]) (.int _ _)
    · exact PureOk.d (by simp [Builtin.max2]) (.int _ _)
  · simp at h

theorem mxAll_snd {b : Bool} : ∀ {l : List V} {l' : List Value} {x v : V} {ux : Value}, RepV w.heap F G x ux → Reps w.heap F G l l'.toArray → mxAll b x l = some v →
    PureOk P w F G (l'.foldlM (fun a c => bif b then Builtin.max2 a c else Builtin.min2 a c) ux) v
  | [], l', x, v, ux, rx, rl, h => by
    have : l' = [] := by simpa using rl.1
    subst this
    simp only [mxAll, Option.some.injEq] at h
    subst h
    exact ⟨ux, by simp, rx⟩
  | y :: l, l', x, v, ux, rx, rl, h => by
    cases l' with
    | nil => have := rl.1; simp at this
    | cons uy l' =>
      simp only [mxAll] at h
      cases hz : mxV b x y with
      | none => rw [hz] at h; simp at h
      | some z =>
        rw [hz] at h
        simp only at h
        obtain ⟨uz, z1, z2⟩ := mx2_snd (P := P) rx (rl.2 0 y uy rfl (by simp)) hz
        have rl' : Reps w.heap F G l l'.toArray := ⟨by have := rl.1; simpa using this, fun i v u h1 h2 => rl.2 (i + 1) v u (by simpa using h1) (by simpa using h2)⟩
        obtain ⟨u, h1, h2⟩ := mxAll_snd z2 rl' h
        refine ⟨u, ?_, h2⟩
        rw [List.foldlM_cons, Sem.run_bind, z1]
        exact h1

end
end Go.AM
namespace Go.AM
open Go

/-- What an operation of the made-ready code gives. -/
def Gives (k : OpK) (st : St) (v : V) (st' : St) : Prop := match k with
  | .o x => x = some v ∧ st' = st
  | .val p => p.run st = some (v, st')
  | _ => False

/-- An operation answers a value, or is skipped. -/
def OpPost (P : Program) (w : World) (F : Nat → Prop) (G : Gh) (st : St) (s : Sem Next) (v : V) (st' : St) : Prop :=
  ∃ n u w' F' G', s.run P w = .ok n w' ∧ (n = .value u ∨ (n = .skip ∧ u = undef)) ∧ Inv P w' F' G' st'.rows st'.next ∧ Ext w w' F F' G G' (owns st.rows G) ∧
    (∀ b, owns st'.rows G' b → owns st.rows G b ∨ w.heap.size ≤ b) ∧ RepV w'.heap F' G' v u ∧ st'.dfr = st.dfr ∧ st'.rc = st.rc

theorem k1_inv {s : List V} {x : CO} {f : V → OpK} {st st' : St} {v : V} (h : Gives (k1 s x f) st v st') : ∃ y, arg s x = some y ∧ Gives (f y) st v st' := by
  unfold k1 at h
  split at h
  · rename_i y hy; exact ⟨y, hy, h⟩
  · exact h.elim

theorem k2_inv {s : List V} {x y : CO} {f : V → V → OpK} {st st' : St} {v : V} (h : Gives (k2 s x y f) st v st') : ∃ a b, arg s x = some a ∧ arg s y = some b ∧ Gives (f a b) st v st' := by
  unfold k2 at h
  split at h
  · rename_i a ha
    split at h
    · rename_i b hb; exact ⟨a, b, ha, hb, h⟩
    · exact h.elim
  · exact h.elim

theorem bad1_inv {x : Option COp} {s : List V} {st st' : St} {v : V} (h : Gives (opK (bad1 x) s) st v st') : ∃ c, x = some c ∧ Gives (opK c s) st v st' := by
  unfold bad1 at h
  split at h
  · exact ⟨_, rfl, h⟩
  · exact h.elim

theorem bad1_map_inv {α : Type} {x : Option α} {f : α → COp} {s : List V} {st st' : St} {v : V} (h : Gives (opK (bad1 (x.map f)) s) st v st') : ∃ c, x = some c ∧ Gives (opK (f c) s) st v st' := by
  obtain ⟨c, h1, h2⟩ := bad1_inv h
  cases x with
  | none => simp at h1
  | some y => simp at h1; subst h1; exact ⟨y, rfl, h2⟩

section
variable {P : Program} {w : World} {F : Nat → Prop} {G : Gh} {st st' : St} {s : List V} {a : Act}

theorem Post.op {x : Sem Value} {v : V} (h : Post P w F G st x v st') : OpPost P w F G st (do pure (.value (← x))) v st' := by
  obtain ⟨u, w', F', G', h1, h2⟩ := h
  exact ⟨.value u, u, w', F', G', by simp [h1], .inl rfl, h2⟩

theorem PureOk.op {x : Sem Value} {v : V} (hi : Inv P w F G st.rows st.next) (h : PureOk P w F G x v) : OpPost P w F G st (do pure (.value (← x))) v st := by
  obtain ⟨u, h1, h2⟩ := h
  exact (Post.same hi h1 h2).op

theorem OpPost.val {u : Value} {v : V} (hi : Inv P w F G st.rows st.next) (h : RepV w.heap F G v u) : OpPost P w F G st (pure (.value u)) v st :=
  ⟨.value u, u, w, F, G, by simp, .inl rfl, hi, Ext.refl _ _ _ _, fun _ h => .inl h, h, rfl, rfl⟩

/-- Package-level variables hold what is told of them. -/
def GlobR (h : Array Obj) (F : Nat → Prop) (gl : List (Nat × D)) : Prop := ∀ g x, globAt gl g = some x → RepD h F (.rop [x] 0 0) (.pointer (some ⟨g, 0, none⟩))

/-- Slots, and package-level variables. -/
def SlR (gl : List (Nat × D)) (h : Array Obj) (F : Nat → Prop) (G : Gh) (s : List V) (t : Array Value) : Prop := Reps h F G s t ∧ GlobR h F gl

variable {gl : List (Nat × D)}

theorem arg_rep (hs : SlR gl w.heap F G s a.tmps) {o : Operand} {c : CO} (hc : cArg gl o = some c) {v : V} (hv : arg s c = some v) : RepV w.heap F G v (a.eval o) := by
  cases o with
  | tmp t =>
    simp only [cArg, Option.some.injEq] at hc
    subst hc
    simp only [arg, nth_eq] at hv
    obtain ⟨u, h1, h2⟩ := hs.1.get hv
    have : a.eval (.tmp t) = u := by
      have := lt_of_some h1
      simp only [Act.eval, Array.getD_eq_getD_getElem?, h1, Option.getD_some]
    rw [this]; exact h2
  | const k =>
    simp only [cArg] at hc
    cases hk : D.ofValue k with
    | none => rw [hk] at hc; simp at hc
    | some x =>
      rw [hk] at hc
      simp only [Option.some.injEq] at hc
      subst hc
      simp only [arg, Option.some.injEq] at hv
      subst hv
      exact .d _ _ (ofValue_rep hk)
  | func f =>
    simp only [cArg, Option.some.injEq] at hc
    subst hc
    simp only [arg, Option.some.injEq] at hv
    subst hv
    exact .d _ _ (.fn _ [] [] #[] #[] rfl rfl (fun i v u h => by simp at h) (fun i v u h => by simp at h))
  | global g =>
    simp only [cArg] at hc
    cases hg : globAt gl g with
    | none => rw [hg] at hc; simp at hc
    | some x =>
      rw [hg] at hc
      simp only [Option.some.injEq] at hc
      subst hc
      simp only [arg, Option.some.injEq] at hv
      subst hv
      exact .d _ _ (hs.2 g x hg)

theorem args_rep (hs : SlR gl w.heap F G s a.tmps) : ∀ {l : List Operand} {cs : List CO} {vs : List V}, cArgs gl l = some cs → argL s cs = some vs → Reps w.heap F G vs (l.map a.eval).toArray
  | [], cs, vs, hc, hv => by
    simp only [cArgs, Option.some.injEq] at hc
    subst hc
    simp only [argL, Option.some.injEq] at hv
    subst hv
    exact Reps.nil
  | o :: l, cs, vs, hc, hv => by
    simp only [cArgs] at hc
    cases h1 : cArg gl o with
    | none => rw [h1] at hc; simp at hc
    | some c =>
      cases h2 : cArgs gl l with
      | none => rw [h1, h2] at hc; simp at hc
      | some r =>
        rw [h1, h2] at hc
        simp only [Option.some.injEq] at hc
        subst hc
        simp only [argL] at hv
        cases h3 : arg s c with
        | none => rw [h3] at hv; simp at hv
        | some v =>
          cases h4 : argL s r with
          | none => rw [h3, h4] at hv; simp at hv
          | some vr =>
            rw [h3, h4] at hv
            simp only [Option.some.injEq] at hv
            subst hv
            exact Reps.cons (arg_rep hs h1 h3) (args_rep hs h2 h4)

theorem argO_rep (hs : SlR gl w.heap F G s a.tmps) {o : Option Operand} {c : Option CO} {v : Option V} (hc : cArgO gl o = some c) (hv : argO s c = some v) : RepO w.heap F G v (o.map a.eval) := by
  cases o with
  | none =>
    simp only [cArgO, Option.some.injEq] at hc
    subst hc
    simp only [argO, Option.some.injEq] at hv
    subst hv
    trivial
  | some o =>
    simp only [cArgO] at hc
    cases h1 : cArg gl o with
    | none => rw [h1] at hc; simp at hc
    | some c' =>
      rw [h1] at hc
      simp only [Option.some.injEq] at hc
      subst hc
      simp only [argO] at hv
      cases h2 : arg s c' with
      | none => rw [h2] at hv; simp at hv
      | some v' =>
        rw [h2] at hv
        simp only [Option.some.injEq] at hv
        subst hv
        exact arg_rep hs h1 h2

end
end Go.AM
namespace Go.AM
open Go

section
variable {P : Program} {hn : Hint} {w : World} {F : Nat → Prop} {G : Gh} {st st' : St} {s : List V} {a : Act} {v : V} {o : Oper}

/-- What is to be shown of an operation. -/
def OpGoal (P : Program) (hn : Hint) (o : Oper) : Prop :=
  ∀ {w : World} {F : Nat → Prop} {G : Gh} {st st' : St} {s : List V} {a : Act} {v : V}, Inv P w F G st.rows st.next → SlR hn.gl w.heap F G s a.tmps → Gives (opK (cOp P hn o) s) st v st' → OpPost P w F G st (execOp a.eval o) v st'

theorem go_o {x : Option V} {v : V} (h : Gives (.o x) st v st') : x = some v ∧ st' = st := h
theorem go_val {p : Pg V} {v : V} (h : Gives (.val p) st v st') : p.run st = some (v, st') := h

theorem bool_of {x : V} {u : Value} {t : Bool} (r : RepV w.heap F G x u) (h : vBool x = some t) : u = .bool t := by
  unfold vBool at h
  split at h
  · simp only [Option.some.injEq] at h; subst h
    cases r.inv_d; rfl
  · simp at h

theorem mov_of (hi : Inv P w F G st.rows st.next) (hs : SlR hn.gl w.heap F G s a.tmps) {x : Operand} (h : Gives (opK (bad1 ((cArg hn.gl x).map .mov)) s) st v st') : OpPost P w F G st (pure (.value (a.eval x))) v st' := by
  obtain ⟨c, hc, h⟩ := bad1_map_inv h
  obtain ⟨h1, rfl⟩ := go_o h
  exact OpPost.val hi (arg_rep hs hc h1)

theorem op_move {x : Operand} (ho : o.op = .move x) : OpGoal P hn o := by
  intro w F G st st' s a v hi hs h
  simp only [cOp, ho] at h
  simp only [execOp, ho]
  exact mov_of hi hs h

theorem op_assign {x : Operand} (ho : o.op = .assign x) : OpGoal P hn o := by
  intro w F G st st' s a v hi hs h
  simp only [cOp, ho] at h
  simp only [execOp, ho]
  split at h
  · rename_i hc
    simp only [Bool.and_eq_true] at hc
    obtain ⟨e, he, h⟩ := bad1_map_inv h
    have h := go_val h
    simp only [Pg.run, Option.some.injEq, Prod.mk.injEq] at h
    obtain ⟨rfl, rfl⟩ := h
    have hx : a.eval x = .slice none 0 0 := by
      unfold isNilSlice at hc
      split at hc
      · rfl
      · simp at hc
    obtain ⟨i1, i2⟩ := nil_row hi e
    rw [hx]
    exact ⟨_, _, w, F, G, by simp, .inl rfl, i1, Ext.refl _ _ _ _, i2, .sl0 _, rfl, rfl⟩
  · exact mov_of hi hs h

theorem op_pick {c x y : Operand} (ho : o.op = .pick c x y) : OpGoal P hn o := by
  intro w F G st st' s a v hi hs h
  simp only [cOp, ho] at h
  simp only [execOp, ho]
  split at h
  · rename_i c' x' y' h1 h2 h3
    obtain ⟨cv, q1, h⟩ := k1_inv h
    obtain ⟨hp, rfl⟩ := go_o h
    unfold vPick at hp
    cases hb : vBool cv with
    | none => rw [hb] at hp; simp at hp
    | some t =>
      rw [hb] at hp
      have this := bool_of (arg_rep hs h1 q1) hb
      have hv : RepV w.heap F G v (if t then a.eval x else a.eval y) := by
        cases t with
        | true => exact arg_rep hs h2 (by simpa using hp)
        | false => exact arg_rep hs h3 (by simpa using hp)
      refine ⟨_, _, w, F, G, ?_, .inl rfl, hi, Ext.refl _ _ _ _, fun _ h => .inl h, hv, rfl, rfl⟩
      simp [this, asBool]
  · exact h.elim

theorem op_alloc {t : TypeId} (ho : o.op = .alloc t) : OpGoal P hn o := by
  intro w F G st st' s a v hi hs h
  simp only [cOp, ho] at h
  simp only [execOp, ho]
  split at h
  · rename_i z n g h1 h2 h3
    split at h
    · exact h.elim
    · rename_i hc
      simp only [not_or] at hc
      split at h
      · exact (allocn_snd hi h2 hc.1 h1 (by simpa using hc.2.1) (by simpa using hc.2.2) (go_val h)).op
      · change Gives (k1 s (.c z) fun v => .val (boxP t n v)) st v st' at h
        obtain ⟨y, q1, h⟩ := k1_inv h
        simp only [arg, Option.some.injEq] at q1
        subst q1
        exact (alloc_snd hi h2 hc.1 h1 (go_val h)).op
  · exact h.elim

theorem op_box {t : TypeId} {x : Operand} (ho : o.op = .box t x) : OpGoal P hn o := by
  intro w F G st st' s a v hi hs h
  simp only [cOp, ho] at h
  simp only [execOp, ho]
  split at h
  · rename_i c n h1 h2
    split at h
    · exact h.elim
    · rename_i h0
      obtain ⟨y, q1, h⟩ := k1_inv h
      exact (box_snd hi h2 h0 (arg_rep hs h1 q1) (go_val h)).op
  · exact h.elim

theorem op_load {t : TypeId} {x : Operand} (ho : o.op = .load t x) : OpGoal P hn o := by
  intro w F G st st' s a v hi hs h
  simp only [cOp, ho] at h
  simp only [execOp, ho]
  split at h
  · rename_i c n b h1 h2 h3
    split at h
    · exact h.elim
    · rename_i h0
      obtain ⟨y, q1, h⟩ := k1_inv h
      obtain ⟨rfl, u, r1, r2⟩ := load_snd hi h2 h3 (by intro hb; subst hb; simpa using h0) rfl (arg_rep hs h1 q1) (go_val h)
      exact (Post.same hi r1 r2).op
  · exact h.elim

theorem op_store {t : TypeId} {x y : Operand} (ho : o.op = .store t x y) : OpGoal P hn o := by
  intro w F G st st' s a v hi hs h
  simp only [cOp, ho] at h
  simp only [execOp, ho]
  split at h
  · rename_i c d n h1 h2 h3
    split at h
    · exact h.elim
    · rename_i h0
      obtain ⟨p, q, q1, q2, h⟩ := k2_inv h
      obtain ⟨⟨u, w', F', G', r1, r2⟩, rfl⟩ := store_snd hi h3 h0 (arg_rep hs h1 q1) (arg_rep hs h2 q2) (go_val h)
      have hu : (Instr.storeAt t (a.eval x) (a.eval y)).run P w = .ok () w' ∧ u = undef := by
        rw [Sem.run_bind] at r1
        cases hr : (Instr.storeAt t (a.eval x) (a.eval y)).run P w with
        | ok _ w1 => rw [hr] at r1; simp at r1; exact ⟨by rw [r1.2], r1.1.symm⟩
        | halt e w1 => rw [hr] at r1; simp [Result.andThen] at r1
      obtain ⟨hu1, rfl⟩ := hu
      exact ⟨.skip, undef, w', F', G', by simp [hu1], .inr ⟨rfl, rfl⟩, r2⟩
  · exact h.elim

theorem op_nilCheck {x : Operand} (ho : o.op = .nilCheck x) : OpGoal P hn o := by
  intro w F G st st' s a v hi hs h
  simp only [cOp, ho] at h
  simp only [execOp, ho]
  obtain ⟨c, hc, h⟩ := bad1_map_inv h
  obtain ⟨y, q1, h⟩ := k1_inv h
  obtain ⟨hq, rfl⟩ := go_o h
  have hr := arg_rep hs hc q1
  rcases nilc_snd hr hq with ⟨rfl, p, hp⟩ | ⟨rfl, f, x1, x2, hp⟩
  · rw [hp] at hr ⊢
    exact OpPost.val hi hr
  · rw [hp] at hr ⊢
    exact OpPost.val hi hr

theorem op_bin {b : BinOp} {t yt : TypeId} {x y : Operand} (ho : o.op = .binOp b t x y yt) : OpGoal P hn o := by
  intro w F G st st' s a v hi hs h
  simp only [cOp, ho] at h
  simp only [execOp, ho]
  split at h
  · rename_i c d h1 h2
    obtain ⟨p, q, q1, q2, h⟩ := k2_inv h
    obtain ⟨hq, rfl⟩ := go_o h
    exact (vBin_snd (arg_rep hs h1 q1) (arg_rep hs h2 q2) hq).op hi
  · exact h.elim

theorem op_un {b : UnOp} {t : TypeId} {x : Operand} (ho : o.op = .unOp b t x) : OpGoal P hn o := by
  intro w F G st st' s a v hi hs h
  simp only [cOp, ho] at h
  simp only [execOp, ho]
  obtain ⟨c, hc, h⟩ := bad1_map_inv h
  obtain ⟨y, q1, h⟩ := k1_inv h
  obtain ⟨hq, rfl⟩ := go_o h
  exact (un_snd (arg_rep hs hc q1) hq).op hi

theorem op_convert {t u : TypeId} {x : Operand} (ho : o.op = .convert t u x) : OpGoal P hn o := by
  intro w F G st st' s a v hi hs h
  simp only [cOp, ho] at h
  simp only [execOp, ho]
  obtain ⟨c, hc, h⟩ := bad1_map_inv h
  obtain ⟨y, q1, h⟩ := k1_inv h
  exact (conv_snd hi (arg_rep hs hc q1) (go_val h)).op

theorem op_ifc {t : TypeId} {x : Operand} (ho : o.op = .makeInterface t x) : OpGoal P hn o := by
  intro w F G st st' s a v hi hs h
  simp only [cOp, ho] at h
  simp only [execOp, ho]
  split at h
  · exact h.elim
  · rename_i c d hni h1 h2
    obtain ⟨y, q1, h⟩ := k1_inv h
    obtain ⟨hq, rfl⟩ := go_o h
    simp only [Option.some.injEq] at hq
    subst hq
    exact (ifc_snd h2 (fun m hm => hni m hm) (arg_rep hs h1 q1)).op hi
  · exact h.elim

theorem op_mkfn {x y : Array Operand} {g : Fn} (ho : o.op = .makeFunc g x y) : OpGoal P hn o := by
  intro w F G st st' s a v hi hs h
  simp only [cOp, ho] at h
  simp only [execOp, ho]
  split at h
  · rename_i fn f p q h1 h2
    simp only [opK] at h
    split at h
    · rename_i a1 ha1
      split at h
      · rename_i b1 hb1
        obtain ⟨hq, rfl⟩ := go_o h
        simp only [Option.some.injEq] at hq
        subst hq
        have r1 := args_rep hs h1 ha1
        have r2 := args_rep hs h2 hb1
        have e1 : (x.toList.map a.eval).toArray = x.map a.eval := by rw [← Array.toList_map]
        have e2 : (y.toList.map a.eval).toArray = y.map a.eval := by rw [← Array.toList_map]
        rw [e1] at r1
        rw [e2] at r2
        exact (mkfn_snd r1 r2).op hi
      · exact h.elim
    · exact h.elim
  · exact h.elim

end
end Go.AM
namespace Go.AM
open Go

section
variable {P : Program} {hn : Hint} {o : Oper}

theorem op_mkmap {t : TypeId} (ho : o.op = .makeMap t none) : OpGoal P hn o := by
  intro w F G st st' s a v hi hs h
  simp only [cOp, ho] at h
  simp only [execOp, ho]
  split at h
  · have h := go_val h
    simp only [Pg.run, Option.some.injEq, Prod.mk.injEq] at h
    obtain ⟨rfl, rfl⟩ := h
    exact (mkmap_snd hi).op
  · exact h.elim

theorem op_mkslice {t : TypeId} {x y : Operand} (ho : o.op = .makeSlice t x y) : OpGoal P hn o := by
  intro w F G st st' s a v hi hs h
  simp only [cOp, ho] at h
  simp only [execOp, ho]
  split at h
  · rename_i c d e h1 h2 h3
    split at h
    · rename_i z i h4 h5
      split at h
      · exact h.elim
      · rename_i hc
        simp only [not_or] at hc
        obtain ⟨p, q, q1, q2, h⟩ := k2_inv h
        have ht : P.underlying t = some (.slice e) := by
          unfold tyElem at h3
          split at h3
          · rename_i e' he; simp only [Option.some.injEq] at h3; subst h3; exact he
          · simp at h3
        exact (mkslice_snd hi ht h5 hc.1 hc.2.1 h4 (by simpa using hc.2.2.2) (arg_rep hs h1 q1) (arg_rep hs h2 q2) (go_val h)).op
    · exact h.elim
  · exact h.elim

theorem elem_of {t e : TypeId} (h3 : tyElem P t = some e) : P.underlying t = some (.slice e) := by
  unfold tyElem at h3
  split at h3
  · rename_i e' he; simp only [Option.some.injEq] at h3; subst h3; exact he
  · simp at h3

theorem op_slice {t : TypeId} {x : Operand} {lo hi' : Option Operand} (ho : o.op = .slice t x lo hi' none) : OpGoal P hn o := by
  intro w F G st st' s a v hi hs h
  simp only [cOp, ho] at h
  simp only [execOp, ho]
  split at h
  · rename_i c l m ht h1 h2 h3
    obtain ⟨y, q1, h⟩ := k1_inv h
    split at h
    · rename_i l' hl
      split at h
      · rename_i m' hm
        obtain ⟨hq, rfl⟩ := go_o h
        exact (slice_str_snd ht (arg_rep hs h1 q1) (argO_rep hs h2 hl) (argO_rep hs h3 hm) hq).op hi
      · exact h.elim
    · exact h.elim
  · rename_i e c l m ht h1 h2 h3
    split at h
    · rename_i n hsz
      split at h
      · exact h.elim
      · obtain ⟨y, q1, h⟩ := k1_inv h
        split at h
        · rename_i l' hl
          split at h
          · rename_i m' hm
            exact (slice_snd hi ht hsz (arg_rep hs h1 q1) (argO_rep hs h2 hl) (argO_rep hs h3 hm) (go_val h)).op
          · exact h.elim
        · exact h.elim
    · exact h.elim
  · exact h.elim

theorem op_fieldAddr {t : TypeId} {x : Operand} {f : Nat} (ho : o.op = .fieldAddr t x f) : OpGoal P hn o := by
  intro w F G st st' s a v hi hs h
  simp only [cOp, ho] at h
  simp only [execOp, ho]
  split at h
  · rename_i fs c ht h1
    split at h
    · rename_i fd hf
      split at h
      · rename_i n hsz
        split at h
        · exact h.elim
        · rename_i h0
          obtain ⟨y, q1, h⟩ := k1_inv h
          obtain ⟨hq, rfl⟩ := go_o h
          exact (faddr_snd ht hf hsz h0 (arg_rep hs h1 q1) hq).op hi
      · exact h.elim
    · exact h.elim
  · exact h.elim

theorem op_field {t : TypeId} {x : Operand} {f : Nat} (ho : o.op = .field t x f) : OpGoal P hn o := by
  intro w F G st st' s a v hi hs h
  simp only [cOp, ho] at h
  simp only [execOp, ho]
  split at h
  · rename_i fs c ht h1
    split at h
    · rename_i fd hf
      split at h
      · rename_i n b hsz hag
        split at h
        · exact h.elim
        · obtain ⟨y, q1, h⟩ := k1_inv h
          obtain ⟨hq, rfl⟩ := go_o h
          exact (field_snd ht hf hsz hag (arg_rep hs h1 q1) hq).op hi
      · exact h.elim
    · exact h.elim
  · exact h.elim

theorem op_indexAddr {t : TypeId} {x y : Operand} (ho : o.op = .indexAddr t x y) : OpGoal P hn o := by
  intro w F G st st' s a v hi hs h
  simp only [cOp, ho] at h
  simp only [execOp, ho]
  split at h
  · rename_i e c d ht h1 h2
    split at h
    · rename_i n hsz
      split at h
      · exact h.elim
      · obtain ⟨p, q, q1, q2, h⟩ := k2_inv h
        exact (iaddr_snd hi ht hsz (arg_rep hs h1 q1) (arg_rep hs h2 q2) (go_val h)).op
    · exact h.elim
  · rename_i len e c d ht h1 h2
    split at h
    · rename_i n hsz
      obtain ⟨p, q, q1, q2, h⟩ := k2_inv h
      obtain ⟨hq, rfl⟩ := go_o h
      exact (aaddr_snd ht hsz (arg_rep hs h1 q1) (arg_rep hs h2 q2) hq).op hi
    · exact h.elim
  · exact h.elim

theorem op_index {t : TypeId} {x y : Operand} (ho : o.op = .index t x y) : OpGoal P hn o := by
  intro w F G st st' s a v hi hs h
  simp only [cOp, ho] at h
  simp only [execOp, ho]
  split at h
  · rename_i c d ht h1 h2
    obtain ⟨p, q, q1, q2, h⟩ := k2_inv h
    obtain ⟨hq, rfl⟩ := go_o h
    exact (istr_snd ht (arg_rep hs h1 q1) (arg_rep hs h2 q2) hq).op hi
  · rename_i len e c d ht h1 h2
    split at h
    · rename_i n g hsz hag
      split at h
      · exact h.elim
      · obtain ⟨p, q, q1, q2, h⟩ := k2_inv h
        obtain ⟨hq, rfl⟩ := go_o h
        exact (iarr_snd ht hsz hag (arg_rep hs h1 q1) (arg_rep hs h2 q2) hq).op hi
    · exact h.elim
  · exact h.elim

theorem op_lookup {t : TypeId} {x y : Operand} {ok : Bool} (ho : o.op = .lookup t x y ok) : OpGoal P hn o := by
  intro w F G st st' s a v hi hs h
  simp only [cOp, ho] at h
  simp only [execOp, ho]
  split at h
  · rename_i k e c d ht h1 h2
    split at h
    · rename_i z j hz hk
      obtain ⟨p, q, q1, q2, h⟩ := k2_inv h
      exact (look_snd hi ht (kt := .int j) hk hz (arg_rep hs h1 q1) (arg_rep hs h2 q2) (go_val h)).op
    · rename_i z hz hk
      obtain ⟨p, q, q1, q2, h⟩ := k2_inv h
      exact (look_snd hi ht (kt := .str) hk hz (arg_rep hs h1 q1) (arg_rep hs h2 q2) (go_val h)).op
    · rename_i z hz hk
      obtain ⟨p, q, q1, q2, h⟩ := k2_inv h
      exact (look_snd hi ht (kt := .bool) hk hz (arg_rep hs h1 q1) (arg_rep hs h2 q2) (go_val h)).op
    · exact h.elim
  · exact h.elim

theorem mapup_of {w : World} {F : Nat → Prop} {G : Gh} {st st' : St} {s : List V} {a : Act} {v : V} (hi : Inv P w F G st.rows st.next) (hs : SlR hn.gl w.heap F G s a.tmps) {t : TypeId} {m k x : Operand}
    (h : Gives (opK (cOp.cMapUp P hn t m k x) s) st v st') : OpPost P w F G st (do Instr.mapUpdate t (a.eval m) (a.eval k) (a.eval x); pure .skip) v st' := by
  have fin : ∀ (kt : KeyT) (t1 t2 : TypeId) (c d e : CO), P.underlying t = some (.map t1 t2) → KeyOk P t1 kt → cArg hn.gl m = some c → cArg hn.gl k = some d → cArg hn.gl x = some e → Gives (opK (.mapup kt c d e) s) st v st' →
      OpPost P w F G st (do Instr.mapUpdate t (a.eval m) (a.eval k) (a.eval x); pure .skip) v st' := by
    intro kt t1 t2 c d e ht hk h1 h2 h3 h
    obtain ⟨p, q, q1, q2, h⟩ := k2_inv h
    obtain ⟨y, q3, h⟩ := k1_inv h
    obtain ⟨⟨u, w', F', G', r1, r2⟩, rfl⟩ := mapup_snd hi ht hk (arg_rep hs h1 q1) (arg_rep hs h2 q2) (arg_rep hs h3 q3) (go_val h)
    have hu : (Instr.mapUpdate t (a.eval m) (a.eval k) (a.eval x)).run P w = .ok () w' ∧ u = undef := by
      rw [Sem.run_bind] at r1
      cases hr : (Instr.mapUpdate t (a.eval m) (a.eval k) (a.eval x)).run P w with
      | ok _ w1 => rw [hr] at r1; simp at r1; exact ⟨by rw [r1.2], r1.1.symm⟩
      | halt e w1 => rw [hr] at r1; simp [Result.andThen] at r1
    obtain ⟨hu1, rfl⟩ := hu
    exact ⟨.skip, undef, w', F', G', by simp [hu1], .inr ⟨rfl, rfl⟩, r2⟩
  unfold cOp.cMapUp at h
  split at h
  · rename_i t1 t2 c d e ht h1 h2 h3
    split at h
    · rename_i j hk; exact fin (.int j) t1 t2 c d e ht hk h1 h2 h3 h
    · rename_i hk; exact fin .str t1 t2 c d e ht hk h1 h2 h3 h
    · rename_i hk; exact fin .bool t1 t2 c d e ht hk h1 h2 h3 h
    · exact h.elim
  · exact h.elim

theorem op_mapUpdate {t : TypeId} {m k x : Operand} (ho : o.op = .mapUpdate t m k x) : OpGoal P hn o := by
  intro w F G st st' s a v hi hs h
  simp only [cOp, ho] at h
  simp only [execOp, ho]
  exact mapup_of hi hs h

theorem op_insert {t : TypeId} {m k x : Operand} (ho : o.op = .insert t m k x) : OpGoal P hn o := by
  intro w F G st st' s a v hi hs h
  simp only [cOp, ho] at h
  simp only [execOp, ho]
  exact mapup_of hi hs h

theorem op_range {t : TypeId} {x : Operand} (ho : o.op = .range t x) : OpGoal P hn o := by
  intro w F G st st' s a v hi hs h
  simp only [cOp, ho] at h
  simp only [execOp, ho]
  split at h
  · rename_i c ht h1
    obtain ⟨y, q1, h⟩ := k1_inv h
    exact (range_snd hi ht (arg_rep hs h1 q1) (go_val h)).op
  · exact h.elim

theorem op_next {x : Operand} (ho : o.op = .next x true) : OpGoal P hn o := by
  intro w F G st st' s a v hi hs h
  simp only [cOp, ho] at h
  simp only [execOp, ho]
  obtain ⟨c, hc, h⟩ := bad1_map_inv h
  obtain ⟨y, q1, h⟩ := k1_inv h
  exact (next_snd hi (arg_rep hs hc q1) (go_val h)).op

theorem op_tass {x : Operand} {xt t : TypeId} {ok : Bool} (ho : o.op = .typeAssert x xt t ok) : OpGoal P hn o := by
  intro w F G st st' s a v hi hs h
  simp only [cOp, ho] at h
  simp only [execOp, ho]
  split at h
  · exact h.elim
  · rename_i d c z hni ht h1 hz
    obtain ⟨y, q1, h⟩ := k1_inv h
    obtain ⟨hq, rfl⟩ := go_o h
    exact (tass_snd ht (fun m hm => hni m hm) hz (arg_rep hs h1 q1) hq).op hi
  · exact h.elim

theorem op_extract {x : Operand} {i : Nat} (ho : o.op = .extract x i) : OpGoal P hn o := by
  intro w F G st st' s a v hi hs h
  simp only [cOp, ho] at h
  simp only [execOp, ho]
  obtain ⟨c, hc, h⟩ := bad1_map_inv h
  obtain ⟨y, q1, h⟩ := k1_inv h
  obtain ⟨hq, rfl⟩ := go_o h
  exact (ext_snd (arg_rep hs hc q1) hq).op hi

/-- The parts of a literal. -/
theorem parts_rep {gl : List (Nat × D)} {w : World} {F : Nat → Prop} {G : Gh} {s : List V} {a : Act} (hs : SlR gl w.heap F G s a.tmps) : ∀ {l : List (Nat × Operand)} {ps : List (Nat × CO)}, cParts gl l = some ps →
    (∀ p ∈ ps, ∃ v, arg s p.2 = some v) → Parts w.heap F G s ps (l.map fun (i, x) => (i, a.eval x))
  | [], ps, hc, _ => by simp only [cParts, Option.some.injEq] at hc; subst hc; exact .nil
  | (i, o) :: l, ps, hc, hv => by
    simp only [cParts] at hc
    cases h1 : cArg gl o with
    | none => rw [h1] at hc; simp at hc
    | some c =>
      cases h2 : cParts gl l with
      | none => rw [h1, h2] at hc; simp at hc
      | some r =>
        rw [h1, h2] at hc
        simp only [Option.some.injEq] at hc
        subst hc
        obtain ⟨v, hv1⟩ := hv (i, c) (by simp)
        exact .cons i c v _ r _ hv1 (arg_rep hs h1 hv1) (parts_rep hs h2 (fun p hp => hv p (by simp [hp])))

theorem setAll_args {s : List V} {n : Nat} : ∀ {ps : List (Nat × CO)} {xs ys : List V}, setAll s n xs ps = some ys → ∀ p ∈ ps, ∃ v, arg s p.2 = some v
  | [], xs, ys, h, p, hp => by simp at hp
  | (i, o) :: l, xs, ys, h, p, hp => by
    simp only [setAll] at h
    cases h1 : arg s o with
    | none => rw [h1] at h; simp at h
    | some v =>
      rw [h1] at h
      simp only at h
      cases hb : Nat.beq v.cells.length n with
      | false => rw [hb] at h; simp at h
      | true =>
        rw [hb] at h
        simp only [cond_true] at h
        simp only [List.mem_cons] at hp
        rcases hp with rfl | hp
        · exact ⟨v, h1⟩
        · exact setAll_args h p hp

theorem op_bslice {t : TypeId} {len : Nat} {parts : Array (Nat × Operand)} (ho : o.op = .buildSlice t len parts) : OpGoal P hn o := by
  intro w F G st st' s a v hi hs h
  simp only [cOp, ho] at h
  simp only [execOp, ho]
  split at h
  · rename_i e l h1 h2
    split at h
    · rename_i z n h3 h4
      split at h
      · exact h.elim
      · rename_i hc
        simp only [not_or] at hc
        have h := go_val h
        cases hsa : setAll s n (List.replicate len (.d z)) l with
        | none => rw [hsa] at h; simp [optP, Pg.run] at h
        | some ys =>
          have hp := parts_rep hs h2 (setAll_args hsa)
          have e1 : (parts.map fun (i, x) => (i, a.eval x)).toList = parts.toList.map fun (i, x) => (i, a.eval x) := by rw [Array.toList_map]
          rw [← e1] at hp
          refine (lit_snd hi (elem_of h1) h4 hc.1 (by omega) h3 (by simpa using hc.2.2.1) hp ?_ h).op
          intro p hp
          have := hc.2.2.2
          rcases Nat.lt_or_ge p.1 len with q | q
          · exact q
          · exact absurd (List.any_eq_true.2 ⟨p, hp, by simpa using q⟩) this
    · exact h.elim
  · exact h.elim

theorem buildV_args {s : List V} : ∀ {ps : List (Nat × Nat × CO)} {x y : V}, buildV s x ps = some y → ∀ p ∈ ps, ∃ v, arg s p.2.2 = some v
  | [], x, y, h, p, hp => by simp at hp
  | (i, n, o) :: l, x, y, h, p, hp => by
    simp only [buildV] at h
    cases h1 : arg s o with
    | none => rw [h1] at h; simp at h
    | some v =>
      rw [h1] at h
      simp only at h
      cases hb : Nat.beq v.cells.length n with
      | false => rw [hb] at h; simp at h
      | true =>
        rw [hb] at h
        simp only [cond_true] at h
        simp only [List.mem_cons] at hp
        rcases hp with rfl | hp
        · exact ⟨v, h1⟩
        · exact buildV_args h p hp

theorem cFields_rep {w : World} {F : Nat → Prop} {G : Gh} {s : List V} {fs : Array Field} {n : Nat} : ∀ {l : List (Nat × CO)} {l' : List (Nat × Value)} {ps : List (Nat × Nat × CO)}, Parts w.heap F G s l l' → cFields P fs n l = some ps →
    BParts w.heap F G s (fun i => match fs[i]? with | some f => (tySize P f.type).map fun k => (f.offset, k) | none => none) n ps l' := by
  intro l l' ps hp
  induction hp generalizing ps with
  | nil => intro h; simp only [cFields, Option.some.injEq] at h; subst h; exact .nil
  | cons i o v u l l' ha r _ ih =>
    intro h
    simp only [cFields] at h
    cases hf : fs[i]? with
    | none => simp [hf] at h
    | some f =>
      simp only [hf] at h
      cases h1 : tySize P f.type with
      | none => simp [h1] at h
      | some k =>
        cases h2 : cFields P fs n l with
        | none => simp [h1, h2] at h
        | some q =>
          simp only [h1, h2] at h
          split at h
          · rename_i hc
            simp only [Option.some.injEq] at h
            subst h
            exact .cons i f.offset k o v u q l' ha r (by simp [hf, h1]) hc.1 hc.2 (ih h2)
          · simp at h

theorem cElems_rep {w : World} {F : Nat → Prop} {G : Gh} {s : List V} {size n : Nat} : ∀ {l : List (Nat × CO)} {l' : List (Nat × Value)} {ps : List (Nat × Nat × CO)}, Parts w.heap F G s l l' → cElems size n l = some ps →
    BParts w.heap F G s (fun i => some (i * size, size)) n ps l' := by
  intro l l' ps hp
  induction hp generalizing ps with
  | nil => intro h; simp only [cElems, Option.some.injEq] at h; subst h; exact .nil
  | cons i o v u l l' ha r _ ih =>
    intro h
    simp only [cElems] at h
    cases h2 : cElems size n l with
    | none => simp [h2] at h
    | some q =>
      simp only [h2] at h
      split at h
      · rename_i hc
        simp only [Option.some.injEq] at h
        subst h
        exact .cons i (i * size) size o v u q l' ha r rfl hc.1 hc.2 (ih h2)
      · simp at h

theorem fields_args {s : List V} {fs : Array Field} {n : Nat} : ∀ {l : List (Nat × CO)} {ps : List (Nat × Nat × CO)}, cFields P fs n l = some ps → (∀ p ∈ ps, ∃ v, arg s p.2.2 = some v) → ∀ p ∈ l, ∃ v, arg s p.2 = some v
  | [], ps, h, _, p, hp => by simp at hp
  | (i, o) :: l, ps, h, hv, p, hp => by
    simp only [cFields] at h
    cases hf : fs[i]? with
    | none => simp [hf] at h
    | some f =>
      simp only [hf] at h
      cases h1 : tySize P f.type with
      | none => simp [h1] at h
      | some k =>
        cases h2 : cFields P fs n l with
        | none => simp [h1, h2] at h
        | some q =>
          simp only [h1, h2] at h
          split at h
          · simp only [Option.some.injEq] at h
            subst h
            simp only [List.mem_cons] at hp
            rcases hp with rfl | hp
            · exact hv (f.offset, k, o) (by simp)
            · exact fields_args h2 (fun p hp => hv p (by simp [hp])) p hp
          · simp at h

theorem elems_args {s : List V} {size n : Nat} : ∀ {l : List (Nat × CO)} {ps : List (Nat × Nat × CO)}, cElems size n l = some ps → (∀ p ∈ ps, ∃ v, arg s p.2.2 = some v) → ∀ p ∈ l, ∃ v, arg s p.2 = some v
  | [], ps, h, _, p, hp => by simp at hp
  | (i, o) :: l, ps, h, hv, p, hp => by
    simp only [cElems] at h
    cases h2 : cElems size n l with
    | none => simp [h2] at h
    | some q =>
      simp only [h2] at h
      split at h
      · simp only [Option.some.injEq] at h
        subst h
        simp only [List.mem_cons] at hp
        rcases hp with rfl | hp
        · exact hv (i * size, size, o) (by simp)
        · exact elems_args h2 (fun p hp => hv p (by simp [hp])) p hp
      · simp at h

theorem op_build {t : TypeId} {parts : Array (Nat × Operand)} (ho : o.op = .build t parts) : OpGoal P hn o := by
  intro w F G st st' s a v hi hs h
  simp only [cOp, ho] at h
  simp only [execOp, ho]
  have e1 : (parts.map fun (i, x) => (i, a.eval x)).toList = parts.toList.map fun (i, x) => (i, a.eval x) := by rw [Array.toList_map]
  split at h
  · rename_i zs l h1 h2
    split at h
    · rename_i fs hu
      split at h
      · rename_i hall
        obtain ⟨ps, hps, h⟩ := bad1_map_inv h
        obtain ⟨hq, rfl⟩ := go_o h
        have hp := parts_rep hs h2 (fields_args hps (buildV_args hq))
        rw [← e1] at hp
        exact (build_struct_snd h1 hu hall (cFields_rep hp hps) hq).op hi
      · exact h.elim
    · rename_i m e hu
      split at h
      · rename_i k hk
        obtain ⟨ps, hps, h⟩ := bad1_map_inv h
        obtain ⟨hq, rfl⟩ := go_o h
        have hp := parts_rep hs h2 (elems_args hps (buildV_args hq))
        rw [← e1] at hp
        exact (build_array_snd h1 hu hk (cElems_rep hp hps) hq).op hi
      · exact h.elim
    · exact h.elim
  · exact h.elim

end
end Go.AM
namespace Go.AM
open Go

section
variable {P : Program} {hn : Hint} {o : Oper}

theorem cArgs_nil {gl : List (Nat × D)} {l : List Operand} (h : cArgs gl l = some []) : l = [] := by
  cases l with
  | nil => rfl
  | cons o l =>
    simp only [cArgs] at h
    split at h <;> simp at h

theorem cArgs_cons {gl : List (Nat × D)} {l : List Operand} {c : CO} {cs : List CO} (h : cArgs gl l = some (c :: cs)) : ∃ o l', l = o :: l' ∧ cArg gl o = some c ∧ cArgs gl l' = some cs := by
  cases l with
  | nil => simp [cArgs] at h
  | cons o l =>
    simp only [cArgs] at h
    split at h
    · rename_i v r h1 h2
      simp only [Option.some.injEq, List.cons.injEq] at h
      obtain ⟨rfl, rfl⟩ := h
      exact ⟨o, l, rfl, h1, h2⟩
    · simp at h

theorem arr_of {α : Type} {x : Array α} {l : List α} (h : x.toList = l) : x = l.toArray := by rw [← h]

theorem ts_get {ts : Array TypeId} {t : TypeId} {l : List TypeId} (h : ts.toList = t :: l) : ts[0]? = some t := by rw [arr_of h]; rfl

theorem ts_get1 {ts : Array TypeId} {t u : TypeId} {l : List TypeId} (h : ts.toList = t :: u :: l) : ts[1]? = some u := by rw [arr_of h]; rfl

/-- What calls a builtin runs. -/
theorem run_builtin {c : Call} {b : Builtin} {ρ : Operand → Value} {w : World} (ho : o.op = .call c) (hb : c.callee = .builtin b) :
    ∃ k, (execOp ρ o).run P w = (builtin b c.argTypes o.type k (c.args.map ρ)).run P w := by
  simp only [execOp, ho, resolve, hb]
  exact ⟨_, by simp [invoke]; rfl⟩

theorem OpPost.congr {w : World} {F : Nat → Prop} {G : Gh} {st st' : St} {v : V} {x y : Sem Next} (h : x.run P w = y.run P w) (hp : OpPost P w F G st y v st') : OpPost P w F G st x v st' := by
  obtain ⟨n, u, w', F', G', h1, h2⟩ := hp
  exact ⟨n, u, w', F', G', by rw [h, h1], h2⟩

theorem app_of {w : World} {F : Nat → Prop} {G : Gh} {st st' : St} {s : List V} {a : Act} {v : V} {c : Call} (hi : Inv P w F G st.rows st.next) (hs : SlR hn.gl w.heap F G s a.tmps) (ho : o.op = .call c) (hb : c.callee = .builtin .append)
    {args : List CO} (ha : cArgs hn.gl c.args.toList = some args) (h : Gives (opK (cBuiltin P .append c.argTypes.toList args) s) st v st') : OpPost P w F G st (execOp a.eval o) v st' := by
  obtain ⟨k, hk⟩ := run_builtin (P := P) (w := w) (ρ := a.eval) ho hb
  refine OpPost.congr hk ?_
  simp only [builtin]
  unfold cBuiltin at h
  split at h <;> rename_i heq <;> simp at heq
  · rename_i x y
    split at h
    · rename_i t u l hts
      split at h
      · exact h.elim
      · rename_i e d hni h1 h2
        split at h
        · rename_i i hinf
          split at h
          · rename_i z hz
            split at h
            · exact h.elim
            · rename_i hc
              simp only [not_or] at hc
              obtain ⟨o1, l1, e1, ca, hr1⟩ := cArgs_cons ha
              obtain ⟨o2, l2, e2, cb, hr2⟩ := cArgs_cons hr1
              have e3 := cArgs_nil hr2
              subst e3; subst e2
              have hmap : c.args.map a.eval = #[a.eval o1, a.eval o2] := by rw [arr_of e1]; simp
              rw [hmap]
              obtain ⟨p, q, q1, q2, h⟩ := k2_inv h
              obtain ⟨zv, hzv1, hzv2⟩ : ∃ zv, (∀ w, (zeroValue e).run P w = .ok zv w) ∧ ∀ h F, RepD h F z zv := by
                obtain ⟨i', zv, hi', hzv, hrep⟩ := tyZero_spec hz
                refine ⟨zv, fun w => ?_, hrep⟩
                simp [zeroValue, typeInfo, hi', hzv]
              have hzl : z.cells.length = i.size := by simpa using hc.2.2.2
              have hne : z.cells ≠ [] := by intro hh; rw [hh] at hzl; simp at hzl; omega
              have hzs : zv.cells.size = i.size := by rw [((hzv2 #[] (fun _ => False)).cells hne).1, hzl]
              have T : AppT P c.argTypes e i.size i.bytes := by
                refine ⟨⟨t, ts_get hts, elem_of h1⟩, ⟨u, d, ts_get1 hts, h2, fun k hk => hni k hk⟩, ⟨i, hinf, rfl, rfl⟩, ⟨z, zv, hz, hzl, hzv1, hzs⟩, hc.1, hc.2.1, by omega⟩
              exact (app_snd T hi o.type (arg_rep hs ca q1) (arg_rep hs cb q2) (go_val h)).op
          · exact h.elim
        · exact h.elim
      · exact h.elim
    · exact h.elim
  · exact h.elim

theorem args1 {gl : List (Nat × D)} {l : List Operand} {x : CO} (h : cArgs gl l = some [x]) : ∃ o1, l = [o1] ∧ cArg gl o1 = some x := by
  obtain ⟨o1, l1, e1, ca, hr1⟩ := cArgs_cons h
  have e3 := cArgs_nil hr1
  subst e3
  exact ⟨o1, e1, ca⟩

theorem args2 {gl : List (Nat × D)} {l : List Operand} {x y : CO} (h : cArgs gl l = some [x, y]) : ∃ o1 o2, l = [o1, o2] ∧ cArg gl o1 = some x ∧ cArg gl o2 = some y := by
  obtain ⟨o1, l1, e1, ca, hr1⟩ := cArgs_cons h
  obtain ⟨o2, e2, cb⟩ := args1 hr1
  subst e2
  exact ⟨o1, o2, e1, ca, cb⟩

variable {w : World} {F : Nat → Prop} {G : Gh} {st st' : St} {s : List V} {a : Act} {v : V} {c : Call} {args : List CO}

theorem len_of (hi : Inv P w F G st.rows st.next) (hs : SlR hn.gl w.heap F G s a.tmps) (ho : o.op = .call c) (hb : c.callee = .builtin .len)
    (ha : cArgs hn.gl c.args.toList = some args) (h : Gives (opK (cBuiltin P .len c.argTypes.toList args) s) st v st') : OpPost P w F G st (execOp a.eval o) v st' := by
  obtain ⟨k, hk⟩ := run_builtin (P := P) (w := w) (ρ := a.eval) ho hb
  refine OpPost.congr hk ?_
  simp only [builtin]
  unfold cBuiltin at h
  split at h <;> rename_i heq <;> simp at heq
  · rename_i x
    obtain ⟨o1, e1, ca⟩ := args1 ha
    have hmap : c.args.map a.eval = #[a.eval o1] := by rw [arr_of e1]; simp
    rw [hmap]
    split at h
    · rename_i t l hts
      split at h
      · rename_i n e hu
        obtain ⟨hq, rfl⟩ := go_o h
        simp only [Option.some.injEq] at hq
        subst hq
        refine (Post.same hi (u := .int .i64 n) ?_ (.d _ _ (.int _ _))).op
        have := ts_get hts
        simp [Builtin.len_, this, und_run hu, goInt]
      · rename_i hu
        obtain ⟨y, q1, h⟩ := k1_inv h
        exact (len_snd hi (ts_get hts) hu (.inl ⟨rfl, rfl⟩) o.type (arg_rep hs ca q1) (go_val h)).op
      · rename_i e hu
        obtain ⟨y, q1, h⟩ := k1_inv h
        exact (len_snd hi (ts_get hts) hu (.inr (.inl ⟨rfl, _, rfl⟩)) o.type (arg_rep hs ca q1) (go_val h)).op
      · rename_i e1 e2 hu
        obtain ⟨y, q1, h⟩ := k1_inv h
        exact (len_snd hi (ts_get hts) hu (.inr (.inr ⟨rfl, _, _, rfl⟩)) o.type (arg_rep hs ca q1) (go_val h)).op
      · exact h.elim
    · exact h.elim
  · exact h.elim

theorem cap_of (hi : Inv P w F G st.rows st.next) (hs : SlR hn.gl w.heap F G s a.tmps) (ho : o.op = .call c) (hb : c.callee = .builtin .cap)
    (ha : cArgs hn.gl c.args.toList = some args) (h : Gives (opK (cBuiltin P .cap c.argTypes.toList args) s) st v st') : OpPost P w F G st (execOp a.eval o) v st' := by
  obtain ⟨k, hk⟩ := run_builtin (P := P) (w := w) (ρ := a.eval) ho hb
  refine OpPost.congr hk ?_
  simp only [builtin]
  unfold cBuiltin at h
  split at h <;> rename_i heq <;> simp at heq
  · rename_i x
    obtain ⟨o1, e1, ca⟩ := args1 ha
    have hmap : c.args.map a.eval = #[a.eval o1] := by rw [arr_of e1]; simp
    rw [hmap]
    split at h
    · rename_i t l hts
      split at h
      · rename_i e hu
        obtain ⟨y, q1, h⟩ := k1_inv h
        obtain ⟨hq, rfl⟩ := go_o h
        have hr := arg_rep hs ca q1
        have hnil : a.eval o1 = .slice none 0 0 ∧ v = .d (.int .i64 0) := by
          unfold vCap at hq
          split at hq
          · simp only [Option.some.injEq] at hq
            have hr' := hr.inv_d
            generalize a.eval o1 = z at hr'
            cases hr'
            exact ⟨rfl, hq.symm⟩
          · rename_i id e off len
            cases he : Nat.beq e 0 with
            | false => rw [he] at hq; simp at hq
            | true =>
              rw [he] at hq
              simp only [cond_true, Option.some.injEq] at hq
              have he := Nat.eq_of_beq_eq_true he
              subst he
              generalize a.eval o1 = z at hr
              cases hr with
              | sl0 => exact ⟨rfl, hq.symm⟩
              | sl _ _ _ _ _ _ _ he0 => exact absurd rfl he0
          · simp at hq
        obtain ⟨hn1, rfl⟩ := hnil
        rw [hn1]
        refine (Post.same hi (u := .int .i64 0) ?_ (.d _ _ (.int _ _))).op
        have := ts_get hts
        simp [Builtin.cap_, this, und_run hu, goInt]
      · exact h.elim
    · exact h.elim
  · exact h.elim

theorem copy_of (hi : Inv P w F G st.rows st.next) (hs : SlR hn.gl w.heap F G s a.tmps) (ho : o.op = .call c) (hb : c.callee = .builtin .copy)
    (ha : cArgs hn.gl c.args.toList = some args) (h : Gives (opK (cBuiltin P .copy c.argTypes.toList args) s) st v st') : OpPost P w F G st (execOp a.eval o) v st' := by
  obtain ⟨k, hk⟩ := run_builtin (P := P) (w := w) (ρ := a.eval) ho hb
  refine OpPost.congr hk ?_
  simp only [builtin]
  unfold cBuiltin at h
  split at h <;> rename_i heq <;> simp at heq
  · rename_i x y
    obtain ⟨o1, o2, e1, ca, cb⟩ := args2 ha
    have hmap : c.args.map a.eval = #[a.eval o1, a.eval o2] := by rw [arr_of e1]; simp
    rw [hmap]
    split at h
    · rename_i t l hts
      split at h
      · rename_i e he
        split at h
        · rename_i n hn
          split at h
          · exact h.elim
          · rename_i h0
            obtain ⟨p, q, q1, q2, h⟩ := k2_inv h
            exact (copy_snd hi (ts_get hts) (elem_of he) hn h0 o.type (arg_rep hs ca q1) (arg_rep hs cb q2) (go_val h)).op
        · exact h.elim
      · exact h.elim
    · exact h.elim
  · exact h.elim

theorem clear_of (hi : Inv P w F G st.rows st.next) (hs : SlR hn.gl w.heap F G s a.tmps) (ho : o.op = .call c) (hb : c.callee = .builtin .clear)
    (ha : cArgs hn.gl c.args.toList = some args) (h : Gives (opK (cBuiltin P .clear c.argTypes.toList args) s) st v st') : OpPost P w F G st (execOp a.eval o) v st' := by
  obtain ⟨k, hk⟩ := run_builtin (P := P) (w := w) (ρ := a.eval) ho hb
  refine OpPost.congr hk ?_
  simp only [builtin]
  unfold cBuiltin at h
  split at h <;> rename_i heq <;> simp at heq
  · rename_i x
    obtain ⟨o1, e1, ca⟩ := args1 ha
    have hmap : c.args.map a.eval = #[a.eval o1] := by rw [arr_of e1]; simp
    rw [hmap]
    split at h
    · rename_i t l hts
      split at h
      · rename_i e he
        split at h
        · rename_i z hz
          split at h
          · rename_i n hn
            split at h
            · exact h.elim
            · rename_i hc
              simp only [not_or] at hc
              obtain ⟨p, q1, h⟩ := k1_inv h
              exact (clear_snd hi (ts_get hts) (elem_of he) hn hc.1 hz (by simpa using hc.2) o.type (arg_rep hs ca q1) (go_val h)).op
          · exact h.elim
        · exact h.elim
      · exact h.elim
    · exact h.elim
  · exact h.elim

theorem mx_of {b : Bool} (hi : Inv P w F G st.rows st.next) (hs : SlR hn.gl w.heap F G s a.tmps) (ho : o.op = .call c) (hb : c.callee = .builtin (if b then .max else .min))
    (ha : cArgs hn.gl c.args.toList = some args) (h : Gives (opK (cBuiltin P (if b then .max else .min) c.argTypes.toList args) s) st v st') : OpPost P w F G st (execOp a.eval o) v st' := by
  obtain ⟨k, hk⟩ := run_builtin (P := P) (w := w) (ρ := a.eval) ho hb
  refine OpPost.congr hk ?_
  have key : ∀ (x : CO) (l : List CO), args = x :: l → Gives (opK (.mx b x l) s) st v st' → OpPost P w F G st (builtin (if b then .max else .min) c.argTypes o.type k (c.args.map a.eval)) v st' := by
    rintro x l rfl h
    obtain ⟨o1, l1, e1, ca, hr1⟩ := cArgs_cons ha
    obtain ⟨y, q1, h⟩ := k1_inv h
    split at h
    · rename_i vs hvs
      obtain ⟨hq, rfl⟩ := go_o h
      obtain ⟨u, r1, r2⟩ := mxAll_snd (P := P) (arg_rep hs ca q1) (args_rep hs hr1 hvs) hq
      have hmap : (c.args.map a.eval).toList = a.eval o1 :: l1.map a.eval := by rw [Array.toList_map, e1]; rfl
      cases b
      · simp only [Bool.false_eq_true, if_false, builtin, Builtin.min_, hmap]
        exact (Post.same hi r1 r2).op
      · simp only [if_true, builtin, Builtin.max_, hmap]
        exact (Post.same hi r1 r2).op
    · exact h.elim
  unfold cBuiltin at h
  cases b <;> (split at h <;> rename_i heq <;> simp at heq)
  · exact key _ _ rfl h
  · exact h.elim
  · exact key _ _ rfl h
  · exact h.elim

theorem sldata_of (hi : Inv P w F G st.rows st.next) (hs : SlR hn.gl w.heap F G s a.tmps) (ho : o.op = .call c) (hb : c.callee = .builtin .unsafeSliceData)
    (ha : cArgs hn.gl c.args.toList = some args) (h : Gives (opK (cBuiltin P .unsafeSliceData c.argTypes.toList args) s) st v st') : OpPost P w F G st (execOp a.eval o) v st' := by
  obtain ⟨k, hk⟩ := run_builtin (P := P) (w := w) (ρ := a.eval) ho hb
  refine OpPost.congr hk ?_
  simp only [builtin]
  unfold cBuiltin at h
  split at h <;> rename_i heq <;> simp at heq
  · rename_i x
    obtain ⟨o1, e1, ca⟩ := args1 ha
    have hmap : c.args.map a.eval = #[a.eval o1] := by rw [arr_of e1]; simp
    rw [hmap]
    obtain ⟨y, q1, h⟩ := k1_inv h
    obtain ⟨hq, rfl⟩ := go_o h
    obtain ⟨u, r1, r2⟩ := sldata_snd (P := P) (ts := c.argTypes) (ty := o.type) (arg_rep hs ca q1) hq
    exact (Post.same hi r1 r2).op
  · exact h.elim

theorem ustr_of (hi : Inv P w F G st.rows st.next) (hs : SlR hn.gl w.heap F G s a.tmps) (ho : o.op = .call c) (hb : c.callee = .builtin .unsafeString)
    (ha : cArgs hn.gl c.args.toList = some args) (h : Gives (opK (cBuiltin P .unsafeString c.argTypes.toList args) s) st v st') : OpPost P w F G st (execOp a.eval o) v st' := by
  obtain ⟨k, hk⟩ := run_builtin (P := P) (w := w) (ρ := a.eval) ho hb
  refine OpPost.congr hk ?_
  simp only [builtin]
  unfold cBuiltin at h
  split at h <;> rename_i heq <;> simp at heq
  · rename_i x y
    obtain ⟨o1, o2, e1, ca, cb⟩ := args2 ha
    have hmap : c.args.map a.eval = #[a.eval o1, a.eval o2] := by rw [arr_of e1]; simp
    rw [hmap]
    split at h
    · rename_i t l hts
      split at h
      · rename_i u hu
        split at h
        · split at h
          · rename_i h1
            obtain ⟨p, q, q1, q2, h⟩ := k2_inv h
            exact (ustr_snd hi (ts_get hts) hu h1 o.type (arg_rep hs ca q1) (arg_rep hs cb q2) (go_val h)).op
          · exact h.elim
        · exact h.elim
      · exact h.elim
    · exact h.elim
  · exact h.elim

theorem op_builtin {b : Builtin} (ho : o.op = .call c) (hb : c.callee = .builtin b) : OpGoal P hn o := by
  intro w F G st st' s a v hi hs h
  simp only [cOp, ho, hb] at h
  split at h
  · rename_i args ha
    cases b
    case append => exact app_of hi hs ho hb ha h
    case len => exact len_of hi hs ho hb ha h
    case cap => exact cap_of hi hs ho hb ha h
    case copy => exact copy_of hi hs ho hb ha h
    case clear => exact clear_of hi hs ho hb ha h
    case max => exact mx_of (b := true) hi hs ho hb ha h
    case min => exact mx_of (b := false) hi hs ho hb ha h
    case unsafeSliceData => exact sldata_of hi hs ho hb ha h
    case unsafeString => exact ustr_of hi hs ho hb ha h
    case recover =>
      unfold cBuiltin at h
      split at h <;> rename_i heq <;> simp at heq
      · exact h.elim
      · exact h.elim
    all_goals
      unfold cBuiltin at h
      split at h <;> rename_i heq <;> simp at heq
      exact h.elim
  · exact h.elim

/-- An operation that answers a value. -/
theorem op_snd (o : Oper) : OpGoal P hn o := by
  cases ho : o.op
  case move => exact op_move ho
  case assign => exact op_assign ho
  case pick => exact op_pick ho
  case alloc => exact op_alloc ho
  case box => exact op_box ho
  case build => exact op_build ho
  case buildSlice => exact op_bslice ho
  case load => exact op_load ho
  case store => exact op_store ho
  case nilCheck => exact op_nilCheck ho
  case binOp => exact op_bin ho
  case unOp => exact op_un ho
  case convert => exact op_convert ho
  case makeInterface => exact op_ifc ho
  case makeFunc => exact op_mkfn ho
  case makeMap t r =>
    cases r with
    | none => exact op_mkmap ho
    | some r =>
      intro w F G st st' s a v hi hs h
      simp only [cOp, ho] at h
      exact h.elim
  case makeSlice => exact op_mkslice ho
  case slice t x lo hi' mx =>
    cases mx with
    | none => exact op_slice ho
    | some r =>
      intro w F G st st' s a v hi hs h
      simp only [cOp, ho] at h
      exact h.elim
  case fieldAddr => exact op_fieldAddr ho
  case field => exact op_field ho
  case indexAddr => exact op_indexAddr ho
  case index => exact op_index ho
  case lookup => exact op_lookup ho
  case mapUpdate => exact op_mapUpdate ho
  case insert => exact op_insert ho
  case range => exact op_range ho
  case next it b =>
    cases b with
    | true => exact op_next ho
    | false =>
      intro w F G st st' s a v hi hs h
      simp only [cOp, ho] at h
      exact h.elim
  case typeAssert => exact op_tass ho
  case extract => exact op_extract ho
  case call c =>
    cases hc : c.callee with
    | builtin b => exact op_builtin ho hc
    | value f =>
      intro w F G st st' s a v hi hs h
      simp only [cOp, ho, hc] at h
      split at h
      · obtain ⟨y, _, h⟩ := k1_inv h
        split at h <;> exact h.elim
      · exact h.elim
    | invoke x n =>
      intro w F G st st' s a v hi hs h
      simp only [cOp, ho, hc] at h
      exact h.elim
  case defer c =>
    intro w F G st st' s a v hi hs h
    simp only [cOp, ho] at h
    split at h
    · split at h
      · obtain ⟨y, _, h⟩ := k1_inv h
        split at h <;> exact h.elim
      · exact h.elim
    · exact h.elim
  case panic x =>
    intro w F G st st' s a v hi hs h
    simp only [cOp, ho] at h
    obtain ⟨c, _, h⟩ := bad1_map_inv h
    obtain ⟨y, _, h⟩ := k1_inv h
    exact h.elim
  all_goals
    intro w F G st st' s a v hi hs h
    simp only [cOp, ho] at h
    exact h.elim

end
end Go.AM
namespace Go.AM
open Go

/-- What a world has become since it was w0: with what was owned there. -/
structure Chain (P : Program) (w0 : World) (F0 : Nat → Prop) (G0 : Gh) (own0 : Nat → Prop) (w : World) (F : Nat → Prop) (G : Gh) (st : St) : Prop where
  inv : Inv P w F G st.rows st.next
  ext : Ext w0 w F0 F G0 G own0
  own : ∀ b, owns st.rows G b → own0 b ∨ w0.heap.size ≤ b

section
variable {P : Program} {w0 w w' : World} {F0 F F' : Nat → Prop} {G0 G G' : Gh} {own0 : Nat → Prop} {st st' : St}

theorem Chain.refl (hi : Inv P w F G st.rows st.next) : Chain P w F G (owns st.rows G) w F G st := ⟨hi, Ext.refl _ _ _ _, fun _ h => .inl h⟩

theorem Chain.trans (a : Chain P w0 F0 G0 own0 w F G st) (b : Chain P w F G (owns st.rows G) w' F' G' st') : Chain P w0 F0 G0 own0 w' F' G' st' :=
  ⟨b.inv, a.ext.trans b.ext a.own, fun x h => (b.own x h).elim (a.own x) (fun h => .inr (Nat.le_trans a.ext.size h))⟩

theorem Chain.keeps (b : Chain P w F G (owns st.rows G) w' F' G' st') (hi : Inv P w F G st.rows st.next) : Keeps w.heap w'.heap F F' G G' := b.ext.keeps hi.fb hi.nf

theorem Frz.chain (hi : Inv P w F G st.rows st.next) (x : Frz P w F F' G st st') : Chain P w F G (owns st.rows G) w F' G st' :=
  ⟨x.inv, ⟨Nat.le_refl _, fun _ _ _ => rfl, rfl, rfl, rfl, x.f, fun b h => (x.f' b h).elim .inl (fun h => .inr (.inl h)), fun _ _ _ h => h⟩, fun b h => .inl (x.own b h)⟩

/-- Something else was done, which owns nothing here. -/
theorem Inv.grow (hi : Inv P w F G st.rows st.next) {G1 G2 : Gh} {st2 : St} (c : Chain P w F G1 (owns [] G1) w' F' G2 st2) : Chain P w F G (owns st.rows G) w' F' G st := by
  have hno : ∀ b, ¬ owns [] G1 b := by rintro b ⟨id, r, h, _⟩; simp [find] at h
  have hk : Keeps w.heap w'.heap F F' G G := ⟨c.ext.f, fun b hb => c.ext.keep b (hi.fb b hb) (hno b), fun _ _ _ h => h⟩
  refine ⟨⟨hi.fresh, hi.gfresh, ?_, hi.sep, c.inv.fb, ?_, hi.stamp⟩, ⟨c.ext.size, fun b hb _ => c.ext.keep b hb (hno b), c.ext.os, c.ext.tape, c.ext.output, c.ext.f, ?_, fun _ _ _ h => h⟩, fun _ h => .inl h⟩
  · intro id r h
    exact (hi.row id r h).mono hk (fun b hb => c.ext.keep b (ownB_lt (hi.row id r h) hb) (hno b))
  · rintro b ⟨id, r, h, ho⟩ hF
    rcases c.ext.f' b hF with h1 | h1 | h1
    · exact hi.nf b ⟨id, r, h, ho⟩ h1
    · exact hno b h1
    · have := ownB_lt (hi.row id r h) ho; omega
  · intro b hb
    rcases c.ext.f' b hb with h1 | h1 | h1
    · exact .inl h1
    · exact absurd h1 (hno b)
    · exact .inr (.inr h1)

theorem find_keep (rows : List (Nat × Row)) (n : Nat) (j : Nat) : find (keepBelow n rows) j = if j < n then find rows j else none := by
  induction rows with
  | nil => simp [keepBelow, find]
  | cons p l ih =>
    obtain ⟨k, r⟩ := p
    simp only [keepBelow]
    cases hb : Nat.blt k n with
    | true =>
      have hlt : k < n := by simpa [Nat.blt_eq] using hb
      simp only [cond_true, find_cons, ih]
      by_cases hj : j = k
      · subst hj; simp [hlt]
      · simp [hj]
    | false =>
      have hlt : ¬ k < n := by intro h; rw [show Nat.blt k n = true from by simpa [Nat.blt_eq] using h] at hb; simp at hb
      simp only [cond_false, find_cons, ih]
      by_cases hj : j = k
      · subst hj; simp [hlt]
      · simp [hj]

/-- Rows forgotten. -/
theorem Chain.drop (c : Chain P w0 F0 G0 own0 w F G st) (n : Nat) (d : List Dfr) (r : Rec) : Chain P w0 F0 G0 own0 w F G { next := st.next, rows := keepBelow n st.rows, dfr := d, rc := r } := by
  have hf : ∀ {id r}, find (keepBelow n st.rows) id = some r → find st.rows id = some r := by
    intro id r h
    rw [find_keep] at h
    split at h
    · exact h
    · simp at h
  have hown : ∀ b, owns (keepBelow n st.rows) G b → owns st.rows G b := by
    rintro b ⟨id, r, h, ho⟩; exact ⟨id, r, hf h, ho⟩
  exact ⟨⟨fun id r h => c.inv.fresh id r (hf h), c.inv.gfresh, fun id r h => c.inv.row id r (hf h), fun id id' r r' b h1 h2 => c.inv.sep id id' r r' b (hf h1) (hf h2), c.inv.fb, fun b h => c.inv.nf b (hown b h), fun id e t xs h => c.inv.stamp id e t xs (hf h)⟩, c.ext,
    fun b h => c.own b (hown b h)⟩

theorem Chain.withD (c : Chain P w0 F0 G0 own0 w F G st) (d : List Dfr) (r : Rec) : Chain P w0 F0 G0 own0 w F G { next := st.next, rows := st.rows, dfr := d, rc := r } := ⟨c.inv, c.ext, c.own⟩

end

/-- How a call ends, and what it leaves. -/
def CallR (P : Program) (w : World) (F : Nat → Prop) (G : Gh) (st : St) (r : Res) (st' : St) : Ending → World → Prop
  | .returned u, w' => ∃ F' G' v, r = .ret v ∧ Chain P w F G (owns st.rows G) w' F' G' st' ∧ RepV w'.heap F' G' v u
  | .panicked ch, w' => ∃ F' G' v u, r = .pan v ∧ ch = [{ v := u, recovered := false }] ∧ Chain P w F G (owns st.rows G) w' F' G' st' ∧ RepV w'.heap F' G' v u
  | .outgrown, _ => False

/-- A call of a function: its text is entered, or it answers at once. -/
def CallOk (P : Program) (f : FuncId) (args : Array Value) (w : World) (R : Ending → World → Prop) : Prop :=
  ((callFunc f args).run P w = .ok (.enter f args) w ∧ Calls P f args w R) ∨ ∃ u w', (callFunc f args).run P w = .ok (.value u) w' ∧ R (.returned u) w'

theorem GlobR.mono {h h' : Array Obj} {F F' : Nat → Prop} {G G' : Gh} {gl : List (Nat × D)} (k : Keeps h h' F F' G G') (hg : GlobR h F gl) : GlobR h' F' gl := fun g x e => (hg g x e).mono k.f k.blk

/-- What the environment tells of calls is so. -/
def EnvOk (P : Program) (gl : List (Nat × D)) (E : Env) : Prop :=
  ∀ (f : FuncId) (args : List V) (st : St) (r : Res) (st' : St) (w : World) (F : Nat → Prop) (G : Gh) (args' : Array Value), E f args st = some (r, st') → st.rc = .none → st.dfr = [] →
    Inv P w F G st.rows st.next → GlobR w.heap F gl → Reps w.heap F G args args' → CallOk P f args' w (CallR P w F G st r st')

section
variable {P : Program} {gl : List (Nat × D)} {E : Env} {C : Cfg} {w : World} {F : Nat → Prop} {G : Gh} {st st' : St}

theorem CallOk.mono {f : FuncId} {args : Array Value} {R R' : Ending → World → Prop} (h : CallOk P f args w R) (hr : ∀ e w', R e w' → R' e w') : CallOk P f args w R' := by
  rcases h with ⟨h1, h2⟩ | ⟨u, w', h1, h2⟩
  · exact .inl ⟨h1, Calls.mono h2 hr⟩
  · exact .inr ⟨u, w', h1, hr _ _ h2⟩

theorem allTupD_rep {h : Array Obj} {F : Nat → Prop} {G G' : Gh} {v : V} {u : Value} (ht : allTupD v = true) (r : RepV h F G v u) : RepV h F G' v u := by
  unfold allTupD at ht
  split at ht
  · exact .d _ _ r.inv_d
  · rename_i vs
    split at ht
    · rename_i ds hd
      have := allD_eq hd
      subst this
      cases r with
      | tup _ cs' hs hr =>
        have rd := Reps.toD (⟨hs, hr⟩ : Reps h F G (ds.map .d) cs')
        have rv := RepDs.toV (G := G') rd
        exact .tup _ _ rv.1 rv.2
    · simp at ht
  · simp at ht

theorem pureCall_snd (hE : EnvOk P gl E) (hi : Inv P w F G st.rows st.next) (hg : GlobR w.heap F gl) {f : FuncId} {args : List V} {args' : Array Value} (ra : Reps w.heap F G args args') {r : Res} (h : pureCall E f args = some r) :
    CallOk P f args' w (CallR P w F G st r st) := by
  unfold pureCall at h
  split at h
  · rename_i ds hds
    have := allD_eq hds
    subst this
    have h0 : Inv P w F (fun _ _ => none) st0.rows st0.next := by
      refine ⟨?_, ?_, ?_, ?_, hi.fb, ?_, ?_⟩
      · intro id r h; simp [st0, find] at h
      · intro id e gb h; simp at h
      · intro id r h; simp [st0, find] at h
      · intro id id' r r' b h; simp [st0, find] at h
      · rintro b ⟨id, r, h, _⟩; simp [st0, find] at h
      · intro id e t xs h; simp [st0, find] at h
    have ra' : Reps w.heap F (fun _ _ => none) (ds.map .d) args' := (ra.toD).toV
    split at h
    · rename_i v st1 hc
      cases hv : allTupD v with
      | false => rw [hv] at h; simp at h
      | true =>
        rw [hv] at h
        simp only [cond_true, Option.some.injEq] at h
        subst h
        refine (hE f _ st0 _ _ w F _ args' hc rfl rfl h0 hg ra').mono ?_
        intro e w' he
        cases e with
        | returned u =>
          obtain ⟨F', G', v', hr, c, rv⟩ := he
          simp only [Res.ret.injEq] at hr
          subst hr
          exact ⟨F', G, v, rfl, hi.grow c, allTupD_rep hv rv⟩
        | panicked ch => obtain ⟨_, _, _, _, hr, _⟩ := he; simp at hr
        | outgrown => exact he
    · rename_i v st1 hc
      split at h
      · rename_i x
        simp only [Option.some.injEq] at h
        subst h
        refine (hE f _ st0 _ _ w F _ args' hc rfl rfl h0 hg ra').mono ?_
        intro e w' he
        cases e with
        | returned u => obtain ⟨_, _, _, hr, _⟩ := he; simp at hr
        | panicked ch =>
          obtain ⟨F', G', v', u, hr, hch, c, rv⟩ := he
          simp only [Res.pan.injEq] at hr
          subst hr
          exact ⟨F', G, _, u, rfl, hch, hi.grow c, .d _ _ rv.inv_d⟩
        | outgrown => exact he
      · simp at h
    · simp at h
  · simp at h

theorem sharedCall_snd (hE : EnvOk P gl E) (hi : Inv P w F G st.rows st.next) (hg : GlobR w.heap F gl) {f : FuncId} {args : List V} {args' : Array Value} (ra : Reps w.heap F G args args') {r : Res} (h : sharedCall C E f args st = some (r, st')) :
    CallOk P f args' w (CallR P w F G st r st') ∧ st'.dfr = st.dfr ∧ st'.rc = st.rc := by
  unfold sharedCall at h
  split at h
  · rename_i r1 st1 hc
    simp only [Option.some.injEq, Prod.mk.injEq] at h
    obtain ⟨rfl, rfl⟩ := h
    refine ⟨?_, rfl, rfl⟩
    have key : ∀ {w' : World} {F' : Nat → Prop} {G' : Gh}, Chain P w F G (owns st.rows G) w' F' G' st1 →
        Chain P w F G (owns st.rows G) w' F' G' { next := st1.next, rows := bif C.drop f then keepBelow st.next st1.rows else st1.rows, dfr := st.dfr, rc := st.rc } := by
      intro w' F' G' c
      cases C.drop f with
      | true => exact c.drop _ _ _
      | false => exact c.withD _ _
    refine (hE f args { st with dfr := [], rc := .none } r1 st1 w F G args' hc rfl rfl hi hg ra).mono ?_
    intro e w' he
    cases e with
    | returned u => obtain ⟨F', G', v, hr, c, rv⟩ := he; exact ⟨F', G', v, hr, key c, rv⟩
    | panicked ch => obtain ⟨F', G', v, u, hr, hch, c, rv⟩ := he; exact ⟨F', G', v, u, hr, hch, key c, rv⟩
    | outgrown => exact he
  · simp at h

theorem CallR.base {w1 : World} {F1 : Nat → Prop} {G1 : Gh} {st1 : St} {r : Res} (c0 : Chain P w F G (owns st.rows G) w1 F1 G1 st1) {e : Ending} {w' : World} (h : CallR P w1 F1 G1 st1 r st' e w') : CallR P w F G st r st' e w' := by
  cases e with
  | returned u => obtain ⟨F', G', v, hr, c, rv⟩ := h; exact ⟨F', G', v, hr, c0.trans c, rv⟩
  | panicked ch => obtain ⟨F', G', v, u, hr, hch, c, rv⟩ := h; exact ⟨F', G', v, u, hr, hch, c0.trans c, rv⟩
  | outgrown => exact h

theorem Reps.append {h : Array Obj} {a b : List V} {a' b' : Array Value} (ra : Reps h F G a a') (rb : Reps h F G b b') : Reps h F G (a ++ b) (a' ++ b') := by
  refine ⟨by simp [ra.1, rb.1], ?_⟩
  intro i v u h1 h2
  by_cases hi : i < a.length
  · rw [List.getElem?_append_left hi] at h1
    rw [Array.getElem?_append_left (by rw [ra.1]; exact hi)] at h2
    exact ra.2 i v u h1 h2
  · rw [List.getElem?_append_right (by omega)] at h1
    rw [Array.getElem?_append_right (by rw [ra.1]; omega), ra.1] at h2
    exact rb.2 _ v u h1 h2

theorem fnOf_rep {fv : V} {fu : Value} (r : RepV w.heap F G fv fu) {f : FuncId} {x y : List V} (h : fnOf fv = some (f, x, y)) : ∃ x' y', fu = .func (.func f) x' y' ∧ Reps w.heap F G x x' ∧ Reps w.heap F G y y' := by
  unfold fnOf at h
  split at h
  · simp only [Option.some.injEq, Prod.mk.injEq] at h
    obtain ⟨rfl, rfl, rfl⟩ := h
    cases r.inv_d with
    | fn _ _ _ x' y' hx hy rx ry => exact ⟨x', y', rfl, RepDs.toV ⟨hx, rx⟩, RepDs.toV ⟨hy, ry⟩⟩
  · simp only [Option.some.injEq, Prod.mk.injEq] at h
    obtain ⟨rfl, rfl, rfl⟩ := h
    cases r with
    | fn _ _ _ x' y' hx hy rx ry => exact ⟨x', y', rfl, ⟨hx, rx⟩, ⟨hy, ry⟩⟩
  · simp at h

theorem callF0_snd (hE : EnvOk P gl E) (hi : Inv P w F G st.rows st.next) (hg : GlobR w.heap F gl) {fv : V} {fu : Value} (rf : RepV w.heap F G fv fu) {args : List V} {args' : Array Value} (ra : Reps w.heap F G args args') {r : Res} (h : callF0 C E fv args st = some (r, st')) :
    ∃ f as, (do let d ← Deferred.ofValue fu args'; invoke d.target d.args).run P w = (callFunc f as).run P w ∧ CallOk P f as w (CallR P w F G st r st') ∧ st'.dfr = st.dfr ∧ st'.rc = st.rc := by
  unfold callF0 at h
  split at h
  · rename_i f x y hf
    obtain ⟨x', y', rfl, rx, ry⟩ := fnOf_rep rf hf
    refine ⟨f, x' ++ args' ++ y', by simp [Deferred.ofValue, invoke], ?_⟩
    cases hk : C.keepArgs f with
    | true =>
      rw [hk] at h
      exact sharedCall_snd hE hi hg ((rx.append ra).append ry) h
    | false =>
      rw [hk] at h
      simp only [cond_false] at h
      split at h
      · rename_i ys st1 he
        obtain ⟨F1, fz, ry1, _⟩ := each_snd (G := G) (fun F st st' v y u hi hr he => freeze_snd 4 F st st' v y u hi hr he) args F st st1 ys args'.toList hi ra he
        have ry1 : Reps w.heap F1 G ys args' := ry1
        have hk1 := fz.keeps
        have c1 := fz.chain hi
        have hargs := ((rx.mono hk1).append ry1).append (ry.mono hk1)
        cases hp : C.isPure f with
        | true =>
          rw [hp] at h
          simp only [cond_true] at h
          split at h
          · rename_i r1 hr1
            simp only [Option.some.injEq, Prod.mk.injEq] at h
            obtain ⟨rfl, rfl⟩ := h
            exact ⟨(pureCall_snd hE fz.inv (hg.mono hk1) hargs hr1).mono (fun e w' => CallR.base c1), fz.dfr, fz.rc⟩
          · simp at h
        | false =>
          rw [hp] at h
          simp only [cond_false] at h
          obtain ⟨q1, q2, q3⟩ := sharedCall_snd hE fz.inv (hg.mono hk1) hargs h
          exact ⟨q1.mono (fun e w' => CallR.base c1), q2.trans fz.dfr, q3.trans fz.rc⟩
      · simp at h
  · simp at h

theorem run_keeps {α : Type} : ∀ {p : Pg α} {st st' : St} {v : α}, p.run st = some (v, st') → st'.dfr = st.dfr ∧ st'.rc = st.rc
  | .ret a, st, st', v, h => by simp only [Pg.run, Option.some.injEq, Prod.mk.injEq] at h; rw [← h.2]; exact ⟨rfl, rfl⟩
  | .fail, _, _, _, h => by simp [Pg.run] at h
  | .getR id k, st, st', v, h => by
    simp only [Pg.run] at h
    split at h
    · exact run_keeps h
    · simp at h
  | .setR id r k, st, st', v, h => by simp only [Pg.run] at h; exact run_keeps (st := { st with rows := put st.rows id r }) h
  | .new r k, st, st', v, h => by simp only [Pg.run] at h; exact run_keeps (st := { st with next := st.next + 1, rows := (st.next, r) :: st.rows }) h

/-- What is given for functions in place of their text is so. -/
def SpOk (P : Program) (gl : List (Nat × D)) (C : Cfg) : Prop :=
  ∀ f g, C.sp f = some g → ∀ (args : List V) (st : St) (v : V) (st' : St) (w : World) (F : Nat → Prop) (G : Gh) (args' : Array Value), (g args).run st = some (v, st') →
    Inv P w F G st.rows st.next → GlobR w.heap F gl → Reps w.heap F G args args' → ∃ u w' F' G', (callFunc f args').run P w = .ok (.value u) w' ∧ Chain P w F G (owns st.rows G) w' F' G' st' ∧ RepV w'.heap F' G' v u

theorem callF_snd (hE : EnvOk P gl E) (hS : SpOk P gl C) (hi : Inv P w F G st.rows st.next) (hg : GlobR w.heap F gl) {fv : V} {fu : Value} (rf : RepV w.heap F G fv fu) {args : List V} {args' : Array Value} (ra : Reps w.heap F G args args') {r : Res} (h : callF C E fv args st = some (r, st')) :
    ∃ f as, (do let d ← Deferred.ofValue fu args'; invoke d.target d.args).run P w = (callFunc f as).run P w ∧ CallOk P f as w (CallR P w F G st r st') ∧ st'.dfr = st.dfr ∧ st'.rc = st.rc := by
  unfold callF at h
  cases hsp : spOf C fv args with
  | none => rw [hsp] at h; exact callF0_snd hE hi hg rf ra h
  | some p =>
    rw [hsp] at h
    unfold spOf at hsp
    split at hsp
    · rename_i f x y hf
      split at hsp
      · rename_i g hg'
        simp only [Option.some.injEq] at hsp
        subst hsp
        obtain ⟨x', y', rfl, rx, ry⟩ := fnOf_rep rf hf
        simp only [spRun] at h
        cases hr : (g (x ++ args ++ y)).run st with
        | none => rw [hr] at h; simp at h
        | some q =>
          obtain ⟨v, st1⟩ := q
          rw [hr] at h
          simp only [Option.some.injEq, Prod.mk.injEq] at h
          obtain ⟨rfl, rfl⟩ := h
          obtain ⟨u, w', F', G', h1, h2, h3⟩ := hS f g hg' _ st v st1 w F G _ hr hi hg ((rx.append ra).append ry)
          obtain ⟨k1, k2⟩ := run_keeps hr
          exact ⟨f, x' ++ args' ++ y', by simp [Deferred.ofValue, invoke], .inr ⟨u, w', h1, F', G', v, rfl, h2, h3⟩, k1, k2⟩
      · simp at hsp
    · simp at hsp

end
end Go.AM
namespace Go.AM
open Go

/-- Neither a call, nor what is deferred, a panic, or a recover. -/
def plainC : COp → Bool
  | .call _ _ => false
  | .pcall _ _ => false
  | .dfr _ _ => false
  | .pan _ => false
  | .rcv => false
  | _ => true

def plainK : OpK → Prop
  | .o _ => True
  | .val _ => True
  | .bad => True
  | _ => False

theorem k1_plain {s : List V} {x : CO} {f : V → OpK} (h : ∀ v, plainK (f v)) : plainK (k1 s x f) := by
  unfold k1; split
  · exact h _
  · trivial

theorem k2_plain {s : List V} {x y : CO} {f : V → V → OpK} (h : ∀ v u, plainK (f v u)) : plainK (k2 s x y f) := by
  unfold k2; split
  · split
    · exact h _ _
    · trivial
  · trivial

theorem opK_plain {c : COp} {s : List V} (h : plainC c = true) : plainK (opK c s) := by
  cases c <;> simp only [opK] <;> first
    | trivial
    | (simp [plainC] at h; done)
    | exact k1_plain fun _ => trivial
    | exact k2_plain fun _ _ => trivial
    | exact k2_plain fun _ _ => k1_plain fun _ => trivial
    | (split
       · split <;> trivial
       · trivial)
    | exact k1_plain fun _ => by split <;> first | trivial | (split <;> trivial)

theorem bad1_plain {x : Option COp} (h : ∀ c, x = some c → plainC c = true) : plainC (bad1 x) = true := by
  unfold bad1; split
  · exact h _ rfl
  · rfl

theorem bad1_map_plain {α : Type} {x : Option α} {f : α → COp} (h : ∀ c, plainC (f c) = true) : plainC (bad1 (x.map f)) = true :=
  bad1_plain fun c hc => by
    cases x with
    | none => simp at hc
    | some y => simp at hc; subst hc; exact h y

section
variable {P : Program} {hn : Hint} {o : Oper}

theorem cMapUp_plain {t : TypeId} {m k x : Operand} : plainC (cOp.cMapUp P hn t m k x) = true := by
  unfold cOp.cMapUp
  split
  · split <;> rfl
  · rfl

theorem cOp_plain (h1 : ∀ c, o.op ≠ .call c) (h2 : ∀ c, o.op ≠ .defer c) (h3 : ∀ x, o.op ≠ .panic x) : plainC (cOp P hn o) = true := by
  cases ho : o.op
  case makeMap t r => cases r <;> simp only [cOp, ho] <;> first | rfl | (split <;> rfl)
  case slice t x lo hi mx => cases mx <;> simp only [cOp, ho] <;> first | rfl | ((repeat' split) <;> rfl)
  case next it b => cases b <;> simp only [cOp, ho] <;> first | rfl | (refine bad1_map_plain ?_; intro _; rfl)
  all_goals simp only [cOp, ho]
  case call c => exact absurd ho (h1 c)
  case defer c => exact absurd ho (h2 c)
  case panic c => exact absurd ho (h3 c)
  case mapUpdate => exact cMapUp_plain
  case insert => exact cMapUp_plain
  all_goals first
    | rfl
    | (refine bad1_map_plain ?_; intro _; rfl)
    | ((repeat' split) <;> first
      | rfl
      | (refine bad1_map_plain ?_; intro _; rfl))

theorem cBuiltin_plain {b : Builtin} {ts : List TypeId} {args : List CO} (h : b ≠ .recover) : plainC (cBuiltin P b ts args) = true := by
  unfold cBuiltin
  (repeat' split) <;> first
    | rfl
    | exact absurd rfl h

/-- What an operation that isn't plain is. -/
theorem cOp_shape (o : Oper) : plainC (cOp P hn o) = true ∨
    (∃ c f fv args, o.op = .call c ∧ c.callee = .value f ∧ cArg hn.gl f = some fv ∧ cArgs hn.gl c.args.toList = some args ∧ cOp P hn o = .call fv args) ∨
    (∃ c, o.op = .call c ∧ c.callee = .builtin .recover ∧ c.args.toList = [] ∧ cOp P hn o = .rcv) ∨
    (∃ c f fv args, o.op = .defer c ∧ c.callee = .value f ∧ cArg hn.gl f = some fv ∧ cArgs hn.gl c.args.toList = some args ∧ cOp P hn o = .dfr fv args) ∨
    (∃ x v, o.op = .panic x ∧ cArg hn.gl x = some v ∧ cOp P hn o = .pan v) := by
  by_cases h1 : ∃ c, o.op = .call c
  · obtain ⟨c, hc⟩ := h1
    cases hb : c.callee with
    | builtin b =>
      by_cases hr : b = .recover
      · subst hr
        cases ha : cArgs hn.gl c.args.toList with
        | none => left; simp only [cOp, hc, hb, ha]; rfl
        | some args =>
          cases args with
          | nil => exact .inr (.inr (.inl ⟨c, hc, hb, cArgs_nil ha, by simp only [cOp, hc, hb, ha]; rfl⟩))
          | cons x l => left; simp only [cOp, hc, hb, ha, cBuiltin]; rfl
      · left
        simp only [cOp, hc, hb]
        split
        · exact cBuiltin_plain hr
        · rfl
    | value f =>
      cases hf : cArg hn.gl f with
      | none => left; simp only [cOp, hc, hb, hf]; rfl
      | some fv =>
        cases ha : cArgs hn.gl c.args.toList with
        | none => left; simp only [cOp, hc, hb, hf, ha]; rfl
        | some args => exact .inr (.inl ⟨c, f, fv, args, hc, hb, hf, ha, by simp only [cOp, hc, hb, hf, ha]⟩)
    | invoke x n => left; simp only [cOp, hc, hb]; rfl
  · by_cases h2 : ∃ c, o.op = .defer c
    · obtain ⟨c, hc⟩ := h2
      cases hb : c.callee with
      | builtin b => left; simp only [cOp, hc, hb]; rfl
      | value f =>
        cases hf : cArg hn.gl f with
        | none => left; simp only [cOp, hc, hb, hf]; rfl
        | some fv =>
          cases ha : cArgs hn.gl c.args.toList with
          | none => left; simp only [cOp, hc, hb, hf, ha]; rfl
          | some args => exact .inr (.inr (.inr (.inl ⟨c, f, fv, args, hc, hb, hf, ha, by simp only [cOp, hc, hb, hf, ha]⟩)))
      | invoke x n => left; simp only [cOp, hc, hb]; rfl
    · by_cases h3 : ∃ x, o.op = .panic x
      · obtain ⟨x, hc⟩ := h3
        cases hx : cArg hn.gl x with
        | none => left; simp only [cOp, hc, hx]; rfl
        | some v => exact .inr (.inr (.inr (.inr ⟨x, v, hc, hx, by simp only [cOp, hc, hx]; rfl⟩)))
      · exact .inl (cOp_plain (fun c h => h1 ⟨c, h⟩) (fun c h => h2 ⟨c, h⟩) (fun c h => h3 ⟨c, h⟩))

end
end Go.AM
namespace Go.AM
open Go

/-- Where a function's run began: its world, what was frozen, what lay where, what was owned; the frames behind it (and, for what is deferred, the frame that runs it). -/
structure Base where
  w : World
  F : Nat → Prop
  G : Gh
  own : Nat → Prop
  c0 : Frame
  cs1 : List Frame
  cs : List Frame
  nrm : Bool
  gl : List (Nat × D)

/-- Deferred calls, as the two machines have them. -/
inductive DfrR (h : Array Obj) (F : Nat → Prop) (G : Gh) : List Dfr → List Deferred → Prop
  | nil : DfrR h F G [] []
  | cons (f : FuncId) (args : List V) (cap args' : Array Value) (l : List Dfr) (l' : List Deferred) (r : Reps h F G args (args' ++ cap)) (rl : DfrR h F G l l') :
      DfrR h F G (⟨f, args⟩ :: l) ({ target := .fn (.func f) cap, args := args' } :: l')

/-- What a recover would tell. -/
inductive RcR (h : Array Obj) (F : Nat → Prop) (G : Gh) (B : Base) : Rec → List Frame → Prop
  | none (hn : B.nrm = true) : RcR h F G B .none B.cs
  | idle : RcR h F G B .idle ({ B.c0 with mode := .returning } :: B.cs1)
  | due (v : V) (u : Value) (r : RepV h F G v u) : RcR h F G B (.due v) ({ B.c0 with mode := .panicking [{ v := u, recovered := false }] } :: B.cs1)
  | done (v : V) (u : Value) (r : RepV h F G v u) : RcR h F G B (.done v) ({ B.c0 with mode := .panicking [{ v := u, recovered := true }] } :: B.cs1)

structure SR (P : Program) (B : Base) (F : Nat → Prop) (G : Gh) (s : List V) (st : St) (a : Act) (cs : List Frame) (w : World) : Prop where
  ch : Chain P B.w B.F B.G B.own w F G st
  sl : Reps w.heap F G s a.tmps
  df : DfrR w.heap F G st.dfr a.defers
  rc : RcR w.heap F G B st.rc cs
  gb : GlobR w.heap F B.gl

section
variable {P : Program} {B : Base} {F F' : Nat → Prop} {G G' : Gh} {s : List V} {st st' : St} {a : Act} {cs : List Frame} {w w' : World}

theorem DfrR.mono {h h' : Array Obj} (k : Keeps h h' F F' G G') {l : List Dfr} {l' : List Deferred} (r : DfrR h F G l l') : DfrR h' F' G' l l' := by
  induction r with
  | nil => exact .nil
  | cons f args cap args' l l' r _ ih => exact .cons f args cap args' l l' (r.mono k) ih

theorem RcR.mono {h h' : Array Obj} (k : Keeps h h' F F' G G') {r : Rec} (x : RcR h F G B r cs) : RcR h' F' G' B r cs := by
  cases x with
  | none hn => exact .none hn
  | idle => exact .idle
  | due v u r => exact .due v u (r.mono k)
  | done v u r => exact .done v u (r.mono k)

theorem Reps.put {h : Array Obj} {t : Array Value} (rs : Reps h F G s t) (d : Nat) {v : V} {u : Value} (r : RepV h F G v u) : Reps h F G (s.set d v) (t.setIfInBounds d u) := by
  refine ⟨by simp [rs.1], ?_⟩
  intro i x y h1 h2
  rw [List.getElem?_set] at h1
  rw [Array.getElem?_setIfInBounds] at h2
  by_cases hd : d = i
  · subst hd
    simp only [if_true] at h1 h2
    split at h1
    · rename_i hl
      rw [if_pos (by rw [rs.1]; exact hl)] at h2
      simp at h1 h2; subst h1; subst h2; exact r
    · simp at h1
  · rw [if_neg hd] at h1 h2
    exact rs.2 i x y h1 h2

theorem Reps.putS {t : Array Value} {h : Array Obj} (rs : Reps h F G s t) (d : Option Nat) {v : V} {u : Value} (r : RepV h F G v u) {ds : List Deferred} : Reps h F G (putS s d v) (({ tmps := t, defers := ds } : Act).put d u).tmps := by
  cases d with
  | none => exact rs
  | some d =>
    show Reps h F G (setN s d v) _
    rw [setN_eq]
    exact rs.put d r

theorem put_defers (a : Act) (d : Option Nat) (u : Value) : (a.put d u).defers = a.defers := by cases d <;> rfl

theorem undef_rep {h : Array Obj} : RepV h F G (.tup []) undef := .tup [] #[] rfl (fun i v u h => by simp at h)

theorem SR.step (x : SR P B F G s st a cs w) (c : Chain P w F G (owns st.rows G) w' F' G' st') (h1 : st'.dfr = st.dfr) (h2 : st'.rc = st.rc) (d : Option Nat) {v : V} {u : Value} (r : RepV w'.heap F' G' v u) :
    SR P B F' G' (putS s d v) st' (a.put d u) cs w' := by
  have hk := c.keeps x.ch.inv
  refine ⟨x.ch.trans c, (x.sl.mono hk).putS d r, ?_, ?_, x.gb.mono hk⟩
  · rw [h1, put_defers]; exact x.df.mono hk
  · rw [h2]; exact x.rc.mono hk

theorem SR.go (x : SR P B F G s st a cs w) (c : Chain P w F G (owns st.rows G) w' F' G' st') (h1 : st'.dfr = st.dfr) (h2 : st'.rc = st.rc) : SR P B F' G' s st' a cs w' := by
  have hk := c.keeps x.ch.inv
  refine ⟨x.ch.trans c, x.sl.mono hk, ?_, ?_, x.gb.mono hk⟩
  · rw [h1]; exact x.df.mono hk
  · rw [h2]; exact x.rc.mono hk

theorem SR.undef (x : SR P B F G s st a cs w) (d : Option Nat) : SR P B F G (AM.putS s d (.tup [])) st (a.put d Go.undef) cs w :=
  x.step (Chain.refl x.ch.inv) rfl rfl d undef_rep

theorem OpPost.chain {x : Sem Next} {v : V} (h : OpPost P w F G st x v st') : ∃ n u w' F' G', x.run P w = .ok n w' ∧ (n = .value u ∨ (n = .skip ∧ u = Go.undef)) ∧ Chain P w F G (owns st.rows G) w' F' G' st' ∧ RepV w'.heap F' G' v u ∧ st'.dfr = st.dfr ∧ st'.rc = st.rc := by
  obtain ⟨n, u, w', F', G', h1, h2, h3, h4, h5, h6, h7, h8⟩ := h
  exact ⟨n, u, w', F', G', h1, h2, ⟨h3, h4, h5⟩, h6, h7, h8⟩

end

/-- Operations in an order: how they end. (Only what is deferred may recover.) -/
def OpsGo (P : Program) (ops : Array Oper) (rec : Bool) (Q : Exit → Act → List Frame → World → Prop) : List Nat → Act → List Frame → World → Prop
  | [], a, cs, w => Q .normal a cs w
  | i :: rest, a, cs, w =>
    match ops[i]? with
    | none => OpsGo P ops rec Q rest a cs w
    | some o =>
      if Region.wanted o (yielded ops a.tmps) then
        match (execOp a.eval o).run P w with
        | .ok .recover w' => rec = true ∧ (match recoverD cs with
          | some (v, cs') => OpsGo P ops rec Q rest (a.put o.dst v) cs' w'
          | none => OpsGo P ops rec Q rest (a.put o.dst .nilIface) cs w')
        | r => o.upon P a (fun a' w' => OpsGo P ops rec Q rest a' cs w') (fun e a' w' => Q e a' cs w') r
      else OpsGo P ops rec Q rest (a.put o.dst undef) cs w

theorem upon_mono {P : Program} {o : Oper} {a : Act} {n n' : Act → World → Prop} {Q Q' : Exit → Act → World → Prop} (h : ∀ a w, n a w → n' a w) (hq : ∀ e a w, Q e a w → Q' e a w) {r : Result Next}
    (hh : o.upon P a n Q r) : o.upon P a n' Q' r := by
  cases r with
  | ok x w' =>
    cases x <;> simp only [Oper.upon] at hh ⊢ <;> first
      | exact h _ _ hh
      | exact Calls.mono hh (fun e w'' he => by cases e <;> first | exact h _ _ he | exact hq _ _ _ he | exact (let ⟨a, w, q⟩ := he; ⟨a, w, hq _ _ _ q⟩))
      | exact Rows.mono hh (fun _ _ he => h _ _ he)
  | halt x w' => cases x <;> simp only [Oper.upon] at hh ⊢ <;> first | exact hq _ _ _ hh | exact hh

section
variable {P : Program} {ops : Array Oper} {Q : Exit → Act → List Frame → World → Prop}

theorem OpsGo.toS {rec : Bool} : ∀ (l : List Nat) (a : Act) (cs : List Frame) (w : World), OpsGo P ops rec Q l a cs w → wpOpsS P ops Q l a cs w
  | [], a, cs, w, h => h
  | i :: rest, a, cs, w, h => by
    unfold OpsGo at h
    unfold wpOpsS
    cases ho : ops[i]? with
    | none => simp only [ho] at h ⊢; exact OpsGo.toS rest a cs w h
    | some o =>
      simp only [ho] at h ⊢
      split
      · rename_i hw
        simp only [hw, if_true] at h
        split at h
        · rename_i w' hr
          obtain ⟨_, h⟩ := h
          simp only [hr]
          split at h
          · rename_i v cs' hrec
            simp only [hrec]
            exact OpsGo.toS rest _ _ _ h
          · rename_i hrec
            simp only [hrec]
            exact OpsGo.toS rest _ _ _ h
        · rename_i r hnot
          split
          · rename_i w' hr; exact absurd hr (hnot w')
          · exact upon_mono (fun a w h => OpsGo.toS rest a cs w h) (fun _ _ _ h => h) h
      · rename_i hw
        simp only [hw, if_false] at h
        exact OpsGo.toS rest _ _ _ h

theorem OpsGo.toN : ∀ (l : List Nat) (a : Act) (cs : List Frame) (w : World), OpsGo P ops false Q l a cs w → wpOps P ops (fun e a w => Q e a cs w) l a w
  | [], a, cs, w, h => h
  | i :: rest, a, cs, w, h => by
    unfold OpsGo at h
    unfold wpOps
    cases ho : ops[i]? with
    | none => simp only [ho] at h ⊢; exact OpsGo.toN rest a cs w h
    | some o =>
      simp only [ho] at h ⊢
      split
      · rename_i hw
        simp only [hw, if_true] at h
        refine .inl ?_
        unfold Oper.wp
        split at h
        · obtain ⟨hf, _⟩ := h; simp at hf
        · exact upon_mono (fun a w h => OpsGo.toN rest a cs w h) (fun _ _ _ h => h) h
      · rename_i hw
        simp only [hw, if_false] at h
        exact OpsGo.toN rest _ _ _ h

end
end Go.AM
namespace Go.AM
open Go

section
variable {P : Program} {hn : Hint} {C : Cfg} {E : Env} {B : Base} {ops : Array Oper} {α : Type}

theorem wanted_of {h : Array Obj} {F : Nat → Prop} {G : Gh} {s : List V} {t : Array Value} (rs : Reps h F G s t) {o : Oper} {g : Option (Nat × Bool)} (hg : cGuard ops o = some g) {b : Bool} (hw : wantedV s g = some b) :
    Region.wanted o (yielded ops t) = b := by
  unfold cGuard at hg
  unfold Region.wanted
  cases hgd : o.guard with
  | none =>
    simp only [hgd, Option.some.injEq] at hg
    subst hg
    simp only [wantedV, Option.some.injEq] at hw
    simp [hw]
  | some p =>
    obtain ⟨j, want⟩ := p
    simp only [hgd] at hg
    cases hj : ops[j]? with
    | none => simp [hj] at hg
    | some og =>
      simp only [hj] at hg
      cases hd : og.dst with
      | none => simp [hd] at hg
      | some d =>
        simp only [hd, Option.some.injEq] at hg
        subst hg
        simp only [wantedV, nth_eq] at hw
        cases hv : s[d]? with
        | none => simp [hv] at hw
        | some v =>
          simp only [hv] at hw
          obtain ⟨u, hu, ru⟩ := rs.get hv
          simp only [yielded, hj, Option.bind_some, hd, hu]
          unfold wantV at hw
          split at hw
          · rename_i b'
            simp only [Option.some.injEq] at hw
            cases ru.inv_d
            subst hw
            cases b' <;> cases want <;> rfl
          · simp only [Option.some.injEq] at hw
            cases ru
            subst hw
            rfl
          · simp at hw

/-- One operation more. -/
theorem op_go (hE : EnvOk P B.gl E) (hS : SpOk P B.gl C) (hgl : hn.gl = B.gl) {rec : Bool} {Q : Exit → Act → List Frame → World → Prop} {i : Nat} {rest : List Nat} {o : Oper} (hi : ops[i]? = some o) {g : Option (Nat × Bool)} (hg : cGuard ops o = some g)
    {F : Nat → Prop} {G : Gh} {s : List V} {st : St} {a : Act} {cs : List Frame} {w : World} (x : SR P B F G s st a cs w) (hw : wantedV s g = some true) (hrec : rec = true ∨ st.rc = .none) {dr : Bool}
    {k : V → St → Option α} {kp : V → St → Option α} {out : α} (hop : opC C E (quietCall hn dr (cOp P hn o)) s st k kp = some out)
    (hk : ∀ v st' a' cs' w' F' G', k v st' = some out → (st.rc = .none → st'.rc = .none) → SR P B F' G' (putS s o.dst v) st' a' cs' w' → OpsGo P ops rec Q rest a' cs' w')
    (hp : ∀ v u st' w' F' G', kp v st' = some out → (st.rc = .none → st'.rc = .none) → SR P B F' G' s st' a cs w' → RepV w'.heap F' G' v u → Q (.panic [{ v := u, recovered := false }]) a cs w') :
    OpsGo P ops rec Q (i :: rest) a cs w := by
  unfold OpsGo
  simp only [hi]
  rw [if_pos (wanted_of x.sl hg hw)]
  -- a value
  have val : ∀ {v : V} {st' : St}, OpPost P w F G st (execOp a.eval o) v st' → k v st' = some out →
      match (execOp a.eval o).run P w with
        | .ok .recover w' => rec = true ∧ (match recoverD cs with
          | some (v, cs') => OpsGo P ops rec Q rest (a.put o.dst v) cs' w'
          | none => OpsGo P ops rec Q rest (a.put o.dst .nilIface) cs w')
        | r => o.upon P a (fun a' w' => OpsGo P ops rec Q rest a' cs w') (fun e a' w' => Q e a' cs w') r := by
    intro v st' hpost hkv
    obtain ⟨n, u, w', F', G', h1, h2, h3, h4, h5, h6⟩ := hpost.chain
    rw [h1]
    rcases h2 with rfl | ⟨rfl, rfl⟩
    · exact hk v st' _ _ _ F' G' hkv (fun hh => by rw [h6]; exact hh) (x.step h3 h5 h6 o.dst h4)
    · exact hk v st' _ _ _ F' G' hkv (fun hh => by rw [h6]; exact hh) (x.step h3 h5 h6 o.dst h4)
  -- a call
  have call : ∀ {r : Res} {st' : St} {f : FuncId} {as : Array Value}, (execOp a.eval o).run P w = (callFunc f as).run P w → CallOk P f as w (CallR P w F G st r st') → st'.dfr = st.dfr → st'.rc = st.rc →
      (match r with | .ret v => k v st' | .pan v => kp v st') = some out →
      match (execOp a.eval o).run P w with
        | .ok .recover w' => rec = true ∧ (match recoverD cs with
          | some (v, cs') => OpsGo P ops rec Q rest (a.put o.dst v) cs' w'
          | none => OpsGo P ops rec Q rest (a.put o.dst .nilIface) cs w')
        | r => o.upon P a (fun a' w' => OpsGo P ops rec Q rest a' cs w') (fun e a' w' => Q e a' cs w') r := by
    intro r st' f as hrun hcall hd hr hout
    rw [hrun]
    rcases hcall with ⟨h1, h2⟩ | ⟨u, w', h1, h2⟩
    · rw [h1]
      show Calls P f as w _
      refine Calls.mono h2 ?_
      intro e w' he
      cases e with
      | returned u =>
        obtain ⟨F', G', v, rfl, c, rv⟩ := he
        exact hk v st' _ _ _ F' G' hout (fun hh => by rw [hr]; exact hh) (x.step c hd hr o.dst rv)
      | panicked ch =>
        obtain ⟨F', G', v, u, rfl, rfl, c, rv⟩ := he
        exact hp v u st' w' F' G' hout (fun hh => by rw [hr]; exact hh) (x.go c hd hr) rv
      | outgrown => exact he.elim
    · rw [h1]
      obtain ⟨F', G', v, rfl, c, rv⟩ := h2
      exact hk v st' _ _ _ F' G' hout (fun hh => by rw [hr]; exact hh) (x.step c hd hr o.dst rv)
  have hinv := x.ch.inv
  have hsl : SlR hn.gl w.heap F G s a.tmps := ⟨x.sl, by rw [hgl]; exact x.gb⟩
  rcases cOp_shape (P := P) (hn := hn) o with hpl | ⟨c, f, fv, args, ho, hc, hf, ha, hco⟩ | ⟨c, ho, hc, ha, hco⟩ | ⟨c, f, fv, args, ho, hc, hf, ha, hco⟩ | ⟨y, v, ho, hv, hco⟩
  · -- plain
    have hq : quietCall hn dr (cOp P hn o) = cOp P hn o := by
      unfold quietCall
      split
      · rename_i h1; rw [h1] at hpl; simp [plainC] at hpl
      · rfl
    rw [hq] at hop
    unfold opC at hop
    have hplK := opK_plain (s := s) hpl
    cases hk1 : opK (cOp P hn o) s with
    | o z =>
      rw [hk1] at hop
      simp only [o1] at hop
      cases z with
      | none => simp at hop
      | some v => exact val (op_snd o hinv hsl (show Gives (opK (cOp P hn o) s) st v st by rw [hk1]; exact ⟨rfl, rfl⟩)) hop
    | val p =>
      rw [hk1] at hop
      simp only [p1] at hop
      cases hr : p.run st with
      | none => rw [hr] at hop; simp at hop
      | some q =>
        obtain ⟨v, st'⟩ := q
        rw [hr] at hop
        exact val (op_snd o hinv hsl (show Gives (opK (cOp P hn o) s) st v st' by rw [hk1]; exact hr)) hop
    | bad => rw [hk1] at hop; simp at hop
    | call => rw [hk1] at hplK; exact hplK.elim
    | pcall => rw [hk1] at hplK; exact hplK.elim
    | panv => rw [hk1] at hplK; exact hplK.elim
    | dfr => rw [hk1] at hplK; exact hplK.elim
    | rcv => rw [hk1] at hplK; exact hplK.elim
  · -- a call
    have hrun : ∀ fu (as : Array Value), a.eval f = fu → c.args.map a.eval = as → (execOp a.eval o).run P w = (do let d ← Deferred.ofValue fu as; invoke d.target d.args).run P w := by
      rintro fu as rfl rfl
      simp only [execOp, ho, resolve, hc]
    have hq : quietCall hn dr (cOp P hn o) = .call fv args ∨ ∃ f', fv = .c (.fn (.func f') [] []) ∧ quietCall hn dr (cOp P hn o) = .pcall f' args := by
      rw [hco]
      unfold quietCall
      split
      · rename_i f' as' heq
        simp only [COp.call.injEq] at heq
        obtain ⟨rfl, rfl⟩ := heq
        split
        · exact .inr ⟨f', rfl, rfl⟩
        · exact .inl rfl
      · exact .inl rfl
    have hargs : ∀ vs, argL s args = some vs → Reps w.heap F G vs (c.args.map a.eval) := by
      intro vs hvs
      have := args_rep hsl ha hvs
      rwa [show (c.args.toList.map a.eval).toArray = c.args.map a.eval by rw [← Array.toList_map]] at this
    rcases hq with hq | ⟨f', rfl, hq⟩
    · rw [hq] at hop
      unfold opC at hop
      simp only [opK, k1] at hop
      cases h1 : arg s fv with
      | none => simp [h1] at hop
      | some fvv =>
        simp only [h1] at hop
        cases h2 : argL s args with
        | none => simp [h2] at hop
        | some vs =>
          simp only [h2] at hop
          cases hcF : callF C E fvv vs st with
          | none => simp [hcF, c1] at hop
          | some r =>
            obtain ⟨r, st'⟩ := r
            obtain ⟨f1, as, q1, q2, q3, q4⟩ := callF_snd hE hS hinv x.gb (arg_rep hsl hf h1) (hargs vs h2) hcF
            refine call (r := r) ((hrun _ _ rfl rfl).trans q1) q2 q3 q4 ?_
            rw [hcF] at hop
            cases r <;> exact hop
    · rw [hq] at hop
      unfold opC at hop
      simp only [opK] at hop
      cases h2 : argL s args with
      | none => simp [h2] at hop
      | some vs =>
        simp only [h2] at hop
        cases hcF : pcallF E f' vs st with
        | none => simp [hcF, c1] at hop
        | some r =>
          obtain ⟨r, st'⟩ := r
          have hcF' := hcF
          unfold pcallF at hcF'
          split at hcF'
          · rename_i r1 hr1
            simp only [Option.some.injEq, Prod.mk.injEq] at hcF'
            obtain ⟨rfl, rfl⟩ := hcF'
            have hfu := arg_rep hsl (o := f) (c := .c (.fn (.func f') [] [])) (v := .d (.fn (.func f') [] [])) hf rfl
            obtain ⟨x1, y1, hfe, rx, ry⟩ := fnOf_rep hfu (f := f') (x := []) (y := []) rfl
            have e1 : x1 = #[] := by have := rx.1; simpa using this
            have e2 : y1 = #[] := by have := ry.1; simpa using this
            subst e1; subst e2
            refine call (r := r1) (f := f') (as := c.args.map a.eval) ((hrun _ _ hfe rfl).trans (by simp [Deferred.ofValue, invoke])) (pureCall_snd hE hinv x.gb (hargs vs h2) hr1) rfl rfl ?_
            rw [hcF] at hop
            cases r1 <;> exact hop
          · simp at hcF'
  · -- recover
    have hq : quietCall hn dr (cOp P hn o) = .rcv := by rw [hco]; unfold quietCall; split <;> simp_all
    rw [hq] at hop
    unfold opC at hop
    simp only [opK, rc1] at hop
    have hrun : (execOp a.eval o).run P w = .ok .recover w := by
      obtain ⟨kk, hk'⟩ := run_builtin (P := P) (w := w) (ρ := a.eval) ho hc
      rw [hk']
      simp [builtin]
    simp only [hrun]
    cases hr : st.rc with
    | none => rw [hr] at hop; simp at hop
    | idle =>
      rw [hr] at hop
      have hrc := x.rc
      rw [hr] at hrc
      refine ⟨hrec.resolve_right (by rw [hr]; simp), ?_⟩
      cases hrc
      simp only [recoverD]
      refine hk _ _ _ _ _ F G hop (fun hh => by rw [hr] at hh; simp at hh) ⟨x.ch.withD _ _, x.sl.putS o.dst (.d _ _ .inil), by rw [put_defers]; exact x.df, .idle, x.gb⟩
    | due v =>
      rw [hr] at hop
      have hrc := x.rc
      rw [hr] at hrc
      refine ⟨hrec.resolve_right (by rw [hr]; simp), ?_⟩
      cases hrc with
      | due _ u ru =>
        simp only [recoverD]
        exact hk _ _ _ _ _ F G hop (fun hh => by rw [hr] at hh; simp at hh) ⟨x.ch.withD _ _, x.sl.putS o.dst ru, by rw [put_defers]; exact x.df, .done v u ru, x.gb⟩
    | done v =>
      rw [hr] at hop
      have hrc := x.rc
      rw [hr] at hrc
      refine ⟨hrec.resolve_right (by rw [hr]; simp), ?_⟩
      cases hrc with
      | done _ u ru =>
        simp only [recoverD]
        exact hk _ _ _ _ _ F G hop (fun hh => by rw [hr] at hh; simp at hh) ⟨x.ch.withD _ _, x.sl.putS o.dst (.d _ _ .inil), by rw [put_defers]; exact x.df, .done v u ru, x.gb⟩
  · -- a deferred call
    have hq : quietCall hn dr (cOp P hn o) = .dfr fv args := by rw [hco]; unfold quietCall; split <;> simp_all
    rw [hq] at hop
    unfold opC at hop
    simp only [opK, k1] at hop
    cases h1 : arg s fv with
    | none => simp [h1] at hop
    | some fvv =>
      simp only [h1] at hop
      cases h2 : argL s args with
      | none => simp [h2] at hop
      | some vs =>
        simp only [h2, df1] at hop
        cases hfn : fnOf fvv with
        | none => simp [hfn] at hop
        | some q =>
          obtain ⟨f1, p, q⟩ := q
          simp only [hfn] at hop
          have hargs := args_rep hsl ha h2
          rw [show (c.args.toList.map a.eval).toArray = c.args.map a.eval by rw [← Array.toList_map]] at hargs
          obtain ⟨x1, y1, hfe, rx, ry⟩ := fnOf_rep (arg_rep hsl hf h1) hfn
          have hrun : (execOp a.eval o).run P w = .ok (.defer { target := .fn (.func f1) y1, args := x1 ++ c.args.map a.eval }) w := by
            simp only [execOp, ho, resolve, hc, hfe, Deferred.ofValue]
            simp
          rw [hrun]
          refine hk _ _ _ _ _ F G hop (fun hh => hh) ⟨x.ch.withD _ _, ?_, ?_, x.rc, x.gb⟩
          · exact x.sl.putS o.dst undef_rep
          · rw [put_defers]
            exact .cons f1 _ y1 _ _ _ ((rx.append hargs).append ry) x.df
  · -- a panic
    have hq : quietCall hn dr (cOp P hn o) = .pan v := by rw [hco]; unfold quietCall; split <;> simp_all
    rw [hq] at hop
    unfold opC at hop
    simp only [opK, k1] at hop
    cases h1 : arg s v with
    | none => simp [h1] at hop
    | some vv =>
      simp only [h1, pn1] at hop
      split at hop
      · rename_i t d
        have hr := arg_rep hsl hv h1
        have hrun : ∃ u, a.eval y = .iface t u := by
          have hr' := hr.inv_d
          generalize a.eval y = z at hr'
          cases hr'
          exact ⟨_, rfl⟩
        obtain ⟨u, hu⟩ := hrun
        have hrun : (execOp a.eval o).run P w = .halt (.panic (a.eval y)) w := by
          simp only [execOp, ho, hu, Instr.panic]
          simp [goPanic]
        rw [hrun]
        exact hp _ _ st w F G hop (fun hh => hh) x hr
      · simp at hop

end
end Go.AM
namespace Go.AM
open Go

/-! # A region's operations one by one -/
abbrev FOp := Option (Nat × Bool) × COper

def cFlat (P : Program) (h : Hint) (dr : Bool) (ops : Array Oper) : List Oper → Option (List FOp)
  | [] => some []
  | o :: l => match cGuard ops o, cFlat P h dr ops l with
    | some g, some r => some ((g, ⟨o.dst, quietCall h dr (cOp P h o)⟩) :: r)
    | _, _ => none

def flatten : List Grp → List FOp
  | [] => []
  | g :: l => g.ops.map (fun o => (g.guard, o)) ++ flatten l

theorem sameGuard_eq {a b : Option (Nat × Bool)} (h : sameGuard a b = true) : a = b := by
  cases a with
  | none => cases b with
    | none => rfl
    | some _ => simp [sameGuard] at h
  | some x => cases b with
    | none => obtain ⟨p, q⟩ := x; simp [sameGuard] at h
    | some y =>
      obtain ⟨p, q⟩ := x; obtain ⟨p', q'⟩ := y
      simp only [sameGuard, Bool.and_eq_true] at h
      have h1 := Nat.eq_of_beq_eq_true h.1
      have h2 : q = q' := by simpa using h.2
      subst h1; subst h2; rfl

theorem flatten_add (g : Option (Nat × Bool)) (o : COper) (gs : List Grp) : flatten (addOp g o gs) = (g, o) :: flatten gs := by
  cases gs with
  | nil => rfl
  | cons q l =>
    obtain ⟨g', ops⟩ := q
    simp only [addOp]
    split
    · rename_i hs
      rw [sameGuard_eq hs]
      rfl
    · rfl

theorem cGroups_flat {P : Program} {h : Hint} {dr : Bool} {ops : Array Oper} : ∀ {l : List Oper} {gs : List Grp}, cGroups P h dr ops l = some gs → cFlat P h dr ops l = some (flatten gs)
  | [], gs, e => by simp only [cGroups, Option.some.injEq] at e; subst e; rfl
  | o :: l, gs, e => by
    simp only [cGroups] at e
    simp only [cFlat]
    cases h1 : cGuard ops o with
    | none => rw [h1] at e; simp at e
    | some g =>
      cases h2 : cGroups P h dr ops l with
      | none => rw [h1, h2] at e; simp at e
      | some r =>
        rw [h1, h2] at e
        simp only [Option.some.injEq] at e
        subst e
        rw [cGroups_flat h2, flatten_add]

def flatC {α : Type} (C : Cfg) (E : Env) (k : List V → St → Option α) (kp : V → List V → St → Option α) : List FOp → List V → St → Option α
  | [], s, st => k s st
  | (g, o) :: l, s, st => match wantedV s g with
    | some true => opC C E o.op s st (fun v st' => flatC C E k kp l (putS s o.dst v) st') (fun v st' => kp v s st')
    | some false => flatC C E k kp l (putS s o.dst (.tup [])) st
    | none => none

section
variable {α β : Type} {C : Cfg} {E : Env}

/-- What an operation gives, whatever follows. -/
theorem opC_cases {op : COp} {s : List V} {st : St} {k : V → St → Option α} {kp : V → St → Option α} {out : α} (h : opC C E op s st k kp = some out) :
    (∃ v st', k v st' = some out ∧ ∀ (β : Type) (k' kp' : V → St → Option β), opC C E op s st k' kp' = k' v st') ∨
    (∃ v st', kp v st' = some out ∧ ∀ (β : Type) (k' kp' : V → St → Option β), opC C E op s st k' kp' = kp' v st') := by
  unfold opC at h
  cases ho : opK op s with
  | o x =>
    rw [ho] at h
    cases x with
    | none => simp [o1] at h
    | some v => exact .inl ⟨v, st, h, fun β k' kp' => by simp [opC, ho, o1]⟩
  | val p =>
    rw [ho] at h
    simp only [p1] at h
    cases hr : p.run st with
    | none => simp [hr] at h
    | some q =>
      obtain ⟨v, st'⟩ := q
      rw [hr] at h
      exact .inl ⟨v, st', h, fun β k' kp' => by simp [opC, ho, p1, hr]⟩
  | call fv args =>
    rw [ho] at h
    cases hc : callF C E fv args st with
    | none => simp [hc, c1] at h
    | some q =>
      obtain ⟨r, st'⟩ := q
      simp only [hc] at h
      cases r with
      | ret v => exact .inl ⟨v, st', h, fun β k' kp' => by simp [opC, ho, c1, hc]⟩
      | pan v => exact .inr ⟨v, st', h, fun β k' kp' => by simp [opC, ho, c1, hc]⟩
  | pcall f args =>
    rw [ho] at h
    cases hc : pcallF E f args st with
    | none => simp [hc, c1] at h
    | some q =>
      obtain ⟨r, st'⟩ := q
      simp only [hc] at h
      cases r with
      | ret v => exact .inl ⟨v, st', h, fun β k' kp' => by simp [opC, ho, c1, hc]⟩
      | pan v => exact .inr ⟨v, st', h, fun β k' kp' => by simp [opC, ho, c1, hc]⟩
  | panv v =>
    rw [ho] at h
    simp only [pn1] at h
    split at h
    · rename_i t x
      exact .inr ⟨_, st, h, fun β k' kp' => by simp [opC, ho, pn1]⟩
    · simp at h
  | dfr fv args =>
    rw [ho] at h
    simp only [df1] at h
    cases hf : fnOf fv with
    | none => simp [hf] at h
    | some q =>
      obtain ⟨f, a, b⟩ := q
      rw [hf] at h
      exact .inl ⟨_, _, h, fun β k' kp' => by simp [opC, ho, df1, hf]⟩
  | rcv =>
    rw [ho] at h
    simp only [rc1] at h
    cases hr : st.rc with
    | none => simp [hr] at h
    | idle => rw [hr] at h; exact .inl ⟨_, _, h, fun β k' kp' => by simp [opC, ho, rc1, hr]⟩
    | due v => rw [hr] at h; exact .inl ⟨_, _, h, fun β k' kp' => by simp [opC, ho, rc1, hr]⟩
    | done v => rw [hr] at h; exact .inl ⟨_, _, h, fun β k' kp' => by simp [opC, ho, rc1, hr]⟩
  | bad => rw [ho] at h; simp at h

/-- Unguarded operations. -/
theorem opsC_flat {k : List V → St → Option α} {kp : V → List V → St → Option α} {out : α} : ∀ (l : List COper) (rest : List FOp) (s : List V) (st : St) (k0 : List V → St → Option α),
    (∀ s st, k0 s st = some out → flatC C E k kp rest s st = some out) → opsC C E k0 kp l s st = some out → flatC C E k kp (l.map (fun o => (none, o)) ++ rest) s st = some out
  | [], rest, s, st, k0, hk, h => hk s st h
  | o :: l, rest, s, st, k0, hk, h => by
    simp only [List.map_cons, List.cons_append, flatC, wantedV]
    simp only [opsC] at h
    rcases opC_cases h with ⟨v, st', h1, h2⟩ | ⟨v, st', h1, h2⟩
    · rw [h2]; exact opsC_flat l rest _ _ k0 hk h1
    · rw [h2]; exact h1

theorem putS_other {s : List V} {d : Option Nat} {v : V} {j : Nat} (h : d ≠ some j) : nth (putS s d v) j = nth s j := by
  cases d with
  | none => rfl
  | some d =>
    show nth (setN s d v) j = _
    rw [nth_eq, nth_eq, setN_eq, List.getElem?_set]
    rw [if_neg (by intro e; subst e; exact h rfl)]

theorem putS_len {s : List V} {d : Option Nat} {v : V} : (putS s d v).length = s.length := by
  cases d with
  | none => rfl
  | some d => show (setN s d v).length = _; rw [setN_eq]; simp

theorem wanted_putS {s : List V} {d : Option Nat} {v : V} {j : Nat} {w : Bool} (h : d ≠ some j) : wantedV (putS s d v) (some (j, w)) = wantedV s (some (j, w)) := by
  simp only [wantedV, putS_other h]

/-- A guarded group that is wanted. -/
theorem grp_flat {j : Nat} {w : Bool} {D : List Nat} {k : List V → St → Option α} {kp : V → List V → St → Option α} {out : α} {rest : List FOp} :
    ∀ (l : List COper) (s : List V) (st : St) (r : GRes), (∀ o ∈ l, o.dst ≠ some j) → wantedV s (some (j, w)) = some true →
      opsC C E (fun s' st' => some (GRes.ok (pickN s' D) st')) (fun v _ st' => some (.pan v st')) l s st = some r →
      (∀ vs st', r = .ok vs st' → ∃ s'', vs = pickN s'' D ∧ s''.length = s.length ∧ (∀ d, d ∉ dsts l → nth s'' d = nth s d) ∧ (flatC C E k kp rest s'' st' = some out → flatC C E k kp (l.map (fun o => (some (j, w), o)) ++ rest) s st = some out)) ∧
      (∀ v st', r = .pan v st' → (∀ o ∈ l, ∀ v s st x, kp v (putS s o.dst x) st = kp v s st) → kp v s st' = some out → flatC C E k kp (l.map (fun o => (some (j, w), o)) ++ rest) s st = some out)
  | [], s, st, r, _, _, h => by
    simp only [opsC, Option.some.injEq] at h
    subst h
    refine ⟨?_, ?_⟩
    · intro vs st' e
      simp only [GRes.ok.injEq] at e
      obtain ⟨rfl, rfl⟩ := e
      exact ⟨s, rfl, rfl, fun _ _ => rfl, fun h => h⟩
    · intro v st' e; simp at e
  | o :: l, s, st, r, hd, hw, h => by
    simp only [opsC] at h
    have hod := hd o (by simp)
    rcases opC_cases h with ⟨v, st1, h1, h2⟩ | ⟨v, st1, h1, h2⟩
    · have hw' := (wanted_putS (s := s) (v := v) (w := w) hod).trans hw
      obtain ⟨q1, q2⟩ := grp_flat l (putS s o.dst v) st1 r (fun o ho => hd o (by simp [ho])) hw' h1
      have hflat : ∀ x, flatC C E k kp (l.map (fun o => (some (j, w), o)) ++ rest) (putS s o.dst v) st1 = some x → flatC C E k kp ((o :: l).map (fun o => (some (j, w), o)) ++ rest) s st = some x := by
        intro x hx
        simp only [List.map_cons, List.cons_append, flatC, hw]
        rw [h2]; exact hx
      refine ⟨?_, ?_⟩
      · intro vs st' e
        obtain ⟨s'', a1, a2, a3, a4⟩ := q1 vs st' e
        refine ⟨s'', a1, a2.trans putS_len, ?_, fun hh => hflat _ (a4 hh)⟩
        intro d hdd
        have hne : o.dst ≠ some d := by
          intro e
          apply hdd
          simp [dsts, e]
        have hdl : d ∉ dsts l := by
          intro e
          apply hdd
          simp only [dsts]
          split <;> simp [e]
        rw [a3 d hdl, putS_other hne]
      · intro v' st' e hkp hout
        refine hflat _ (q2 v' st' e (fun o ho => hkp o (by simp [ho])) ?_)
        rw [hkp o (by simp)]; exact hout
    · simp only [Option.some.injEq] at h1
      subst h1
      refine ⟨fun vs st' e => by simp at e, ?_⟩
      intro v' st' e hkp hout
      simp only [GRes.pan.injEq] at e
      obtain ⟨rfl, rfl⟩ := e
      simp only [List.map_cons, List.cons_append, flatC, hw]
      rw [h2]; exact hout

theorem list_ext_nth {a b : List V} (hl : a.length = b.length) (h : ∀ i, nth a i = nth b i) : a = b := by
  apply List.ext_getElem?
  intro i
  rw [← nth_eq, ← nth_eq]; exact h i

theorem putAll_pick {s'' : List V} : ∀ (D : List Nat) (pre : List V) (s : List V), s''.length = s.length → (∀ d, d ∉ D → nth s'' d = nth s d) → putAll (pre ++ pickN s'' D) pre.length D s = s''
  | [], pre, s, hl, h => list_ext_nth hl.symm (fun i => (h i (by simp)).symm)
  | d :: D, pre, s, hl, h => by
    have e0 : pickN s'' (d :: D) = nthV s'' d :: pickN s'' D := rfl
    rw [e0, putAll]
    have e1 : pre ++ nthV s'' d :: pickN s'' D = (pre ++ [nthV s'' d]) ++ pickN s'' D := by simp
    have e2 : pre.length + 1 = (pre ++ [nthV s'' d]).length := by simp
    have e3 : nthV (pre ++ nthV s'' d :: pickN s'' D) pre.length = nthV s'' d := by
      simp [nthV, nth_eq]
    rw [e3, e1, e2]
    refine putAll_pick D _ _ (by rw [setN_eq]; simpa using hl) ?_
    intro i hi
    rw [nth_eq (setN _ _ _), setN_eq, List.getElem?_set]
    by_cases hd : d = i
    · subst hd
      simp only [if_true]
      split
      · rename_i hlt
        rw [← hl] at hlt
        simp [nthV, nth_eq, hlt]
      · rename_i hlt
        rw [nth_eq, List.getElem?_eq_none (by omega)]
    · rw [if_neg hd, ← nth_eq]
      exact h i (by simp [hi, Ne.symm hd])

/-- A guarded group that is not wanted. -/
theorem skip_flat {j : Nat} {w : Bool} {k : List V → St → Option α} {kp : V → List V → St → Option α} {out : α} {rest : List FOp} {vs : List V} (hvs : ∀ i, nthV vs i = .tup []) :
    ∀ (l : List COper) (n : Nat) (s : List V) (st : St), (∀ o ∈ l, o.dst ≠ some j) → wantedV s (some (j, w)) = some false →
      flatC C E k kp rest (putAll vs n (dsts l) s) st = some out → flatC C E k kp (l.map (fun o => (some (j, w), o)) ++ rest) s st = some out
  | [], n, s, st, _, _, h => h
  | o :: l, n, s, st, hd, hw, h => by
    simp only [List.map_cons, List.cons_append, flatC, hw]
    have hw' := (wanted_putS (s := s) (v := .tup []) (w := w) (hd o (by simp))).trans hw
    cases ho : o.dst with
    | none =>
      rw [ho] at hw'
      refine skip_flat hvs l n _ st (fun o ho => hd o (by simp [ho])) hw' ?_
      simp only [dsts, ho] at h
      exact h
    | some d =>
      rw [ho] at hw'
      refine skip_flat hvs l (n + 1) _ st (fun o ho => hd o (by simp [ho])) hw' ?_
      simp only [dsts, ho, putAll, hvs] at h
      exact h

theorem tups_nth : ∀ (D : List Nat) (i : Nat), nthV (tups D) i = .tup []
  | [], i => by simp [nthV, tups, nth]
  | d :: D, 0 => rfl
  | d :: D, i + 1 => tups_nth D i

/-- The guards' slots are not set behind them, and a panic within a guarded group doesn't look at what is set there. -/
def GrpsOk (kp : V → List V → St → Option α) (gs : List Grp) : Prop :=
  ∀ g ∈ gs, ∀ j w, g.guard = some (j, w) → (∀ o ∈ g.ops, o.dst ≠ some j) ∧ ∀ o ∈ g.ops, ∀ v s st x, kp v (putS s o.dst x) st = kp v s st

theorem evGs_flat {k : List V → St → Option α} {kp : V → List V → St → Option α} {out : α} : ∀ (gs : List Grp) (s : List V) (st : St), GrpsOk kp gs → evGs C E k kp gs s st = some out →
    flatC C E k kp (flatten gs) s st = some out
  | [], s, st, _, h => h
  | ⟨none, ops⟩ :: gs, s, st, hok, h => by
    simp only [evGs] at h
    exact opsC_flat ops (flatten gs) s st _ (fun s st h => evGs_flat gs s st (fun g hg => hok g (by simp [hg])) h) h
  | ⟨some (j, w), ops⟩ :: gs, s, st, hok, h => by
    simp only [evGs, grpC] at h
    obtain ⟨hd, hkp⟩ := hok ⟨some (j, w), ops⟩ (by simp) j w rfl
    have ih := fun s st => evGs_flat (k := k) (kp := kp) (out := out) gs s st (fun g hg => hok g (by simp [hg]))
    cases hw : wantedV s (some (j, w)) with
    | none => rw [hw] at h; simp [w1, g1] at h
    | some b =>
      rw [hw] at h
      cases b with
      | false =>
        simp only [w1, cond_false, g1] at h
        exact skip_flat (tups_nth _) ops 0 s st hd hw (ih _ _ h)
      | true =>
        simp only [w1, cond_true] at h
        cases hr : opsC C E (fun s' st' => some (GRes.ok (pickN s' (dsts ops)) st')) (fun v _ st' => some (.pan v st')) ops s st with
        | none => rw [hr] at h; simp [g1] at h
        | some r =>
          rw [hr] at h
          obtain ⟨q1, q2⟩ := grp_flat (k := k) (kp := kp) (out := out) (rest := flatten gs) ops s st r hd hw hr
          cases r with
          | ok vs st' =>
            simp only [g1] at h
            obtain ⟨s'', a1, a2, a3, a4⟩ := q1 vs st' rfl
            have hp := putAll_pick (dsts ops) [] s a2 a3
            simp only [List.nil_append, List.length_nil] at hp
            rw [a1, hp] at h
            exact a4 (ih _ _ h)
          | pan v st' =>
            simp only [g1] at h
            exact q2 v st' rfl hkp h

end
end Go.AM
namespace Go.AM
open Go

section
variable {α : Type} {P : Program} {hn : Hint} {C : Cfg} {E : Env} {B : Base} {ops : Array Oper}

theorem cFlat_cons {dr : Bool} {o : Oper} {l : List Oper} {fl : List FOp} (h : cFlat P hn dr ops (o :: l) = some fl) :
    ∃ g r, cGuard ops o = some g ∧ cFlat P hn dr ops l = some r ∧ fl = (g, ⟨o.dst, quietCall hn dr (cOp P hn o)⟩) :: r := by
  simp only [cFlat] at h
  cases h1 : cGuard ops o with
  | none => rw [h1] at h; simp at h
  | some g =>
    cases h2 : cFlat P hn dr ops l with
    | none => rw [h1, h2] at h; simp at h
    | some r =>
      rw [h1, h2] at h
      simp only [Option.some.injEq] at h
      exact ⟨g, r, rfl, rfl, h.symm⟩

/-- An operation that isn't wanted. -/
theorem skip_go {rec : Bool} {Q : Exit → Act → List Frame → World → Prop} {i : Nat} {rest : List Nat} {o : Oper} (hi : ops[i]? = some o) {g : Option (Nat × Bool)} (hg : cGuard ops o = some g)
    {F : Nat → Prop} {G : Gh} {s : List V} {st : St} {a : Act} {cs : List Frame} {w : World} (x : SR P B F G s st a cs w) (hw : wantedV s g = some false)
    (hk : SR P B F G (putS s o.dst (.tup [])) st (a.put o.dst undef) cs w → OpsGo P ops rec Q rest (a.put o.dst undef) cs w) : OpsGo P ops rec Q (i :: rest) a cs w := by
  unfold OpsGo
  simp only [hi]
  have := wanted_of x.sl hg hw
  rw [if_neg (by rw [this]; simp)]
  exact hk (x.undef o.dst)

theorem flat_go (hE : EnvOk P B.gl E) (hS : SpOk P B.gl C) (hgl : hn.gl = B.gl) {rec : Bool} {Q : Exit → Act → List Frame → World → Prop} {dr : Bool} {k : List V → St → Option α} {kp : V → List V → St → Option α} {out : α}
    (hk : ∀ s st a cs w F G, k s st = some out → SR P B F G s st a cs w → (rec = true ∨ st.rc = .none) → Q .normal a cs w)
    (hp : ∀ v u s st a cs w F G, kp v s st = some out → SR P B F G s st a cs w → (rec = true ∨ st.rc = .none) → RepV w.heap F G v u → Q (.panic [{ v := u, recovered := false }]) a cs w) :
    ∀ (l : List Oper) (i : Nat) (fl : List FOp) (s : List V) (st : St) (a : Act) (cs : List Frame) (w : World) (F : Nat → Prop) (G : Gh), ops.toList.drop i = l → cFlat P hn dr ops l = some fl →
      SR P B F G s st a cs w → (rec = true ∨ st.rc = .none) → flatC C E k kp fl s st = some out → OpsGo P ops rec Q (List.range' i l.length) a cs w
  | [], i, fl, s, st, a, cs, w, F, G, _, hf, x, hr, h => by
    simp only [cFlat, Option.some.injEq] at hf
    subst hf
    exact hk s st a cs w F G h x hr
  | o :: l, i, fl, s, st, a, cs, w, F, G, hl, hf, x, hr, h => by
    obtain ⟨g, r, hg, hfr, rfl⟩ := cFlat_cons hf
    have hi : ops[i]? = some o := by
      have : (ops.toList.drop i)[0]? = some o := by rw [hl]; rfl
      rw [List.getElem?_drop] at this
      simpa using this
    have hl' : ops.toList.drop (i + 1) = l := by
      rw [← List.drop_drop, hl]; rfl
    have ih := flat_go hE hS hgl (dr := dr) hk hp l (i + 1) r
    rw [List.length_cons, List.range'_succ]
    simp only [flatC] at h
    cases hw : wantedV s g with
    | none => rw [hw] at h; simp at h
    | some b =>
      rw [hw] at h
      cases b with
      | false => exact skip_go hi hg x hw (fun x' => ih _ _ _ _ _ F G hl' hfr x' hr h)
      | true =>
        refine op_go hE hS hgl hi hg x hw hr h ?_ ?_
        · intro v st' a' cs' w' F' G' hk' hrc x'
          exact ih _ _ _ _ _ F' G' hl' hfr x' (hr.imp id hrc) hk'
        · intro v u st' w' F' G' hk' hrc x' ru
          exact hp v u s st' a cs w' F' G' hk' x' (hr.imp id hrc) ru

/-- The same, in an order that is given. -/
theorem flat_goL (hE : EnvOk P B.gl E) (hS : SpOk P B.gl C) (hgl : hn.gl = B.gl) {rec : Bool} {Q : Exit → Act → List Frame → World → Prop} {dr : Bool} {k : List V → St → Option α} {kp : V → List V → St → Option α} {out : α}
    (hk : ∀ s st a cs w F G, k s st = some out → SR P B F G s st a cs w → (rec = true ∨ st.rc = .none) → Q .normal a cs w)
    (hp : ∀ v u s st a cs w F G, kp v s st = some out → SR P B F G s st a cs w → (rec = true ∨ st.rc = .none) → RepV w.heap F G v u → Q (.panic [{ v := u, recovered := false }]) a cs w) :
    ∀ (l : List Oper) (is : List Nat) (fl : List FOp) (s : List V) (st : St) (a : Act) (cs : List Frame) (w : World) (F : Nat → Prop) (G : Gh), is.map (fun i => ops[i]?) = l.map some → cFlat P hn dr ops l = some fl →
      SR P B F G s st a cs w → (rec = true ∨ st.rc = .none) → flatC C E k kp fl s st = some out → OpsGo P ops rec Q is a cs w
  | [], is, fl, s, st, a, cs, w, F, G, hl, hf, x, hr, h => by
    simp only [cFlat, Option.some.injEq] at hf
    subst hf
    have : is = [] := by simpa using hl
    subst this
    exact hk s st a cs w F G h x hr
  | o :: l, [], fl, s, st, a, cs, w, F, G, hl, hf, x, hr, h => by simp at hl
  | o :: l, i :: is, fl, s, st, a, cs, w, F, G, hl, hf, x, hr, h => by
    obtain ⟨g, r, hg, hfr, rfl⟩ := cFlat_cons hf
    simp only [List.map_cons, List.cons.injEq] at hl
    obtain ⟨hi, hl'⟩ := hl
    have ih := flat_goL hE hS hgl (dr := dr) hk hp l is r
    simp only [flatC] at h
    cases hw : wantedV s g with
    | none => rw [hw] at h; simp at h
    | some b =>
      rw [hw] at h
      cases b with
      | false => exact skip_go hi hg x hw (fun x' => ih _ _ _ _ _ F G hl' hfr x' hr h)
      | true =>
        refine op_go hE hS hgl hi hg x hw hr h ?_ ?_
        · intro v st' a' cs' w' F' G' hk' hrc x'
          exact ih _ _ _ _ _ F' G' hl' hfr x' (hr.imp id hrc) hk'
        · intro v u st' w' F' G' hk' hrc x' ru
          exact hp v u s st' a cs w' F' G' hk' x' (hr.imp id hrc) ru

end
end Go.AM
namespace Go.AM
open Go

/-! # Programs over rows that don't meet may change places -/
section
variable {α β : Type}

theorem runL_run : ∀ {p : Pg α} {st st' : St} {fp fp' : Fp} {v : α}, p.runL st fp = some (v, st', fp') → p.run st = some (v, st')
  | .ret a, st, st', fp, fp', v, h => by simp only [Pg.runL, Option.some.injEq, Prod.mk.injEq] at h; simp [Pg.run, h.1, h.2.1]
  | .fail, _, _, _, _, _, h => by simp [Pg.runL] at h
  | .getR id k, st, st', fp, fp', v, h => by
    simp only [Pg.runL] at h
    simp only [Pg.run]
    cases hf : find st.rows id with
    | none => rw [hf] at h; simp at h
    | some r => rw [hf] at h; exact runL_run h
  | .setR id r k, st, st', fp, fp', v, h => by
    simp only [Pg.runL] at h
    simp only [Pg.run]
    split at h
    · exact runL_run h
    · simp at h
  | .new r k, st, st', fp, fp', v, h => by
    simp only [Pg.runL] at h
    simp only [Pg.run]
    exact runL_run h

theorem runL_mono : ∀ {p : Pg α} {st st' : St} {fp fp' : Fp} {v : α}, p.runL st fp = some (v, st', fp') → (∀ i ∈ fp.rd, i ∈ fp'.rd) ∧ (∀ i ∈ fp.wr, i ∈ fp'.wr) ∧ (fp.nw = true → fp'.nw = true)
  | .ret a, st, st', fp, fp', v, h => by
    simp only [Pg.runL, Option.some.injEq, Prod.mk.injEq] at h
    obtain ⟨_, _, rfl⟩ := h
    exact ⟨fun _ h => h, fun _ h => h, fun h => h⟩
  | .fail, _, _, _, _, _, h => by simp [Pg.runL] at h
  | .getR id k, st, st', fp, fp', v, h => by
    simp only [Pg.runL] at h
    cases hf : find st.rows id with
    | none => rw [hf] at h; simp at h
    | some r =>
      rw [hf] at h
      obtain ⟨a, b, c⟩ := runL_mono h
      exact ⟨fun i hi => a i (by simp [hi]), b, c⟩
  | .setR id r k, st, st', fp, fp', v, h => by
    simp only [Pg.runL] at h
    split at h
    · obtain ⟨a, b, c⟩ := runL_mono h
      exact ⟨a, fun i hi => b i (by simp [hi]), c⟩
    · simp at h
  | .new r k, st, st', fp, fp', v, h => by
    simp only [Pg.runL] at h
    obtain ⟨a, b, c⟩ := runL_mono h
    exact ⟨a, fun i hi => b i (by simp [hi]), fun _ => c rfl⟩

/-- What isn't written stays. -/
theorem runL_find : ∀ {q : Pg β} {st st' : St} {fp fp' : Fp} {u : β} {id : Nat}, q.runL st fp = some (u, st', fp') → id ∉ fp'.wr → find st'.rows id = find st.rows id
  | .ret a, st, st', fp, fp', v, id, h, _ => by simp only [Pg.runL, Option.some.injEq, Prod.mk.injEq] at h; rw [h.2.1]
  | .fail, _, _, _, _, _, _, h, _ => by simp [Pg.runL] at h
  | .getR j k, st, st', fp, fp', v, id, h, hn => by
    simp only [Pg.runL] at h
    cases hf : find st.rows j with
    | none => rw [hf] at h; simp at h
    | some r => rw [hf] at h; exact runL_find h hn
  | .setR j r k, st, st', fp, fp', v, id, h, hn => by
    simp only [Pg.runL] at h
    split at h
    · have hj : id ≠ j := by rintro rfl; exact hn ((runL_mono h).2.1 id (by simp))
      rw [runL_find h hn]
      simp [find_put, hj]
    · simp at h
  | .new r k, st, st', fp, fp', v, id, h, hn => by
    simp only [Pg.runL] at h
    have hj : id ≠ st.next := by rintro rfl; exact hn ((runL_mono h).2.1 st.next (by simp))
    rw [runL_find h hn]
    simp [find_cons, hj]

theorem put_comm : ∀ {rows : List (Nat × Row)} {i j : Nat} {r q a b : Row}, i ≠ j → find rows i = some a → find rows j = some b → put (put rows i r) j q = put (put rows j q) i r
  | [], i, j, r, q, a, b, _, h, _ => by simp [find] at h
  | (k, x) :: l, i, j, r, q, a, b, hij, h1, h2 => by
    by_cases hi : k = i
    · subst hi
      have : Nat.beq k j = false := beq_ne hij
      simp only [put, beq_self, this, cond_true, cond_false]
    · have hki : Nat.beq k i = false := beq_ne hi
      by_cases hj : k = j
      · subst hj
        simp only [put, beq_self, hki, cond_true, cond_false]
      · have hkj : Nat.beq k j = false := beq_ne hj
        simp only [put, hki, hkj, cond_false]
        rw [put_comm hij (a := a) (b := b)]
        · simpa [find, hki] using h1
        · simpa [find, hkj] using h2

theorem runL_unput : ∀ {q : Pg β} {st sa : St} {fp fp' : Fp} {u : β} {id : Nat} {r r0 : Row}, q.runL { st with rows := put st.rows id r } fp = some (u, sa, fp') → id ∉ fp'.rd → id ∉ fp'.wr → find st.rows id = some r0 →
    ∃ st', q.runL st fp = some (u, st', fp') ∧ sa = { st' with rows := put st'.rows id r } ∧ find st'.rows id = some r0
  | .ret a, st, sa, fp, fp', u, id, r, r0, h, _, _, hf => by
    simp only [Pg.runL, Option.some.injEq, Prod.mk.injEq] at h
    obtain ⟨rfl, rfl, rfl⟩ := h
    exact ⟨st, rfl, rfl, hf⟩
  | .fail, _, _, _, _, _, _, _, _, h, _, _, _ => by simp [Pg.runL] at h
  | .getR j k, st, sa, fp, fp', u, id, r, r0, h, h1, h2, hf => by
    simp only [Pg.runL] at h ⊢
    cases hj : find (put st.rows id r) j with
    | none => rw [hj] at h; simp at h
    | some x =>
      rw [hj] at h
      have hne : j ≠ id := by rintro rfl; exact h1 ((runL_mono h).1 j (by simp))
      rw [find_put, if_neg hne] at hj
      rw [hj]
      exact runL_unput h h1 h2 hf
  | .setR j x k, st, sa, fp, fp', u, id, r, r0, h, h1, h2, hf => by
    simp only [Pg.runL] at h ⊢
    cases hj : find (put st.rows id r) j with
    | none => rw [hj] at h; simp at h
    | some y =>
      rw [hj] at h
      simp only at h
      have hne : j ≠ id := by rintro rfl; exact h2 ((runL_mono h).2.1 j (by simp))
      rw [find_put, if_neg hne] at hj
      rw [hj]
      simp only
      rw [put_comm (Ne.symm hne) hf hj] at h
      exact runL_unput (st := { st with rows := put st.rows j x }) h h1 h2 (by simp [find_put, Ne.symm hne, hf])
  | .new x k, st, sa, fp, fp', u, id, r, r0, h, h1, h2, hf => by
    simp only [Pg.runL] at h ⊢
    have hne : id ≠ st.next := by rintro rfl; exact h2 ((runL_mono h).2.1 st.next (by simp))
    have hp : (st.next, x) :: put st.rows id r = put ((st.next, x) :: st.rows) id r := by
      simp [put, beq_ne (Ne.symm hne)]
    rw [hp] at h
    exact runL_unput (st := { st with next := st.next + 1, rows := (st.next, x) :: st.rows }) h h1 h2 (by simp [find_cons, hne, hf])

theorem runL_unnew : ∀ {q : Pg β} {st sa : St} {fp fp' : Fp} {u : β} {r : Row}, q.runL { st with next := st.next + 1, rows := (st.next, r) :: st.rows } fp = some (u, sa, fp') → st.next ∉ fp'.rd → st.next ∉ fp'.wr → fp'.nw = false →
    ∃ st', q.runL st fp = some (u, st', fp') ∧ st'.next = st.next ∧ sa = { st' with next := st.next + 1, rows := (st.next, r) :: st'.rows }
  | .ret a, st, sa, fp, fp', u, r, h, _, _, _ => by
    simp only [Pg.runL, Option.some.injEq, Prod.mk.injEq] at h
    obtain ⟨rfl, rfl, rfl⟩ := h
    exact ⟨st, rfl, rfl, rfl⟩
  | .fail, _, _, _, _, _, _, h, _, _, _ => by simp [Pg.runL] at h
  | .getR j k, st, sa, fp, fp', u, r, h, h1, h2, h3 => by
    simp only [Pg.runL] at h ⊢
    cases hj : find ((st.next, r) :: st.rows) j with
    | none => rw [hj] at h; simp at h
    | some x =>
      rw [hj] at h
      have hne : j ≠ st.next := by rintro rfl; exact h1 ((runL_mono h).1 st.next (by simp))
      rw [find_cons, if_neg hne] at hj
      rw [hj]
      exact runL_unnew h h1 h2 h3
  | .setR j x k, st, sa, fp, fp', u, r, h, h1, h2, h3 => by
    simp only [Pg.runL] at h ⊢
    cases hj : find ((st.next, r) :: st.rows) j with
    | none => rw [hj] at h; simp at h
    | some y =>
      rw [hj] at h
      simp only at h
      have hne : j ≠ st.next := by rintro rfl; exact h2 ((runL_mono h).2.1 st.next (by simp))
      rw [find_cons, if_neg hne] at hj
      rw [hj]
      simp only
      have hp : put ((st.next, r) :: st.rows) j x = (st.next, r) :: put st.rows j x := by
        simp [put, beq_ne (Ne.symm hne)]
      rw [hp] at h
      exact runL_unnew (st := { st with rows := put st.rows j x }) h h1 h2 h3
  | .new x k, st, sa, fp, fp', u, r, h, h1, h2, h3 => by
    simp only [Pg.runL] at h
    have := (runL_mono h).2.2 rfl
    rw [this] at h3
    simp at h3

/-- Two that don't meet. -/
theorem runL_swap {q : Pg β} {u : β} {fq0 fq : Fp} : ∀ {p : Pg α} {st st1 st2 : St} {fp0 fp : Fp} {v : α}, p.runL st fp0 = some (v, st1, fp) → q.runL st1 fq0 = some (u, st2, fq) →
    (∀ i ∈ fp.wr, i ∉ fq.rd ∧ i ∉ fq.wr) → (∀ i ∈ fp.rd, i ∉ fq.wr) → ¬ (fp.nw = true ∧ fq.nw = true) → ∃ st1', q.runL st fq0 = some (u, st1', fq) ∧ p.runL st1' fp0 = some (v, st2, fp)
  | .ret a, st, st1, st2, fp0, fp, v, h, hq, _, _, _ => by
    simp only [Pg.runL, Option.some.injEq, Prod.mk.injEq] at h
    obtain ⟨rfl, rfl, rfl⟩ := h
    exact ⟨st2, hq, rfl⟩
  | .fail, _, _, _, _, _, _, h, _, _, _, _ => by simp [Pg.runL] at h
  | .getR id k, st, st1, st2, fp0, fp, v, h, hq, h1, h2, h3 => by
    simp only [Pg.runL] at h
    cases hf : find st.rows id with
    | none => rw [hf] at h; simp at h
    | some r =>
      rw [hf] at h
      obtain ⟨st1', a, b⟩ := runL_swap h hq h1 h2 h3
      refine ⟨st1', a, ?_⟩
      have hid := h2 id ((runL_mono h).1 id (by simp))
      simp only [Pg.runL, runL_find a hid, hf]
      exact b
  | .setR id r k, st, st1, st2, fp0, fp, v, h, hq, h1, h2, h3 => by
    simp only [Pg.runL] at h
    cases hf : find st.rows id with
    | none => rw [hf] at h; simp at h
    | some r0 =>
      rw [hf] at h
      simp only at h
      obtain ⟨sa, a, b⟩ := runL_swap h hq h1 h2 h3
      have hid := h1 id ((runL_mono h).2.1 id (by simp))
      obtain ⟨st', c, rfl, hf'⟩ := runL_unput a hid.1 hid.2 hf
      refine ⟨st', c, ?_⟩
      simp only [Pg.runL, hf']
      exact b
  | .new r k, st, st1, st2, fp0, fp, v, h, hq, h1, h2, h3 => by
    simp only [Pg.runL] at h
    obtain ⟨sa, a, b⟩ := runL_swap h hq h1 h2 h3
    have hid := h1 st.next ((runL_mono h).2.1 st.next (by simp))
    have hnw := (runL_mono h).2.2 rfl
    have hqn : fq.nw = false := by
      cases hh : fq.nw with
      | false => rfl
      | true => exact absurd ⟨hnw, hh⟩ h3
    obtain ⟨st', c, hn, rfl⟩ := runL_unnew a hid.1 hid.2 hqn
    refine ⟨st', c, ?_⟩
    simp only [Pg.runL, hn]
    exact b

/-- One that looks at nothing. -/
theorem runL_quiet : ∀ {p : Pg α} {st st' : St} {fp : Fp} {v : α}, p.runL st ⟨[], [], false⟩ = some (v, st', fp) → fp.rd = [] → fp.wr = [] → st' = st ∧ fp = ⟨[], [], false⟩ ∧ p = .ret v
  | .ret a, st, st', fp, v, h, _, _ => by
    simp only [Pg.runL, Option.some.injEq, Prod.mk.injEq] at h
    obtain ⟨rfl, rfl, rfl⟩ := h
    exact ⟨rfl, rfl, rfl⟩
  | .fail, _, _, _, _, h, _, _ => by simp [Pg.runL] at h
  | .getR id k, st, st', fp, v, h, h1, _ => by
    simp only [Pg.runL] at h
    split at h
    · have := (runL_mono h).1 id (by simp)
      rw [h1] at this; simp at this
    · simp at h
  | .setR id r k, st, st', fp, v, h, _, h2 => by
    simp only [Pg.runL] at h
    split at h
    · have := (runL_mono h).2.1 id (by simp)
      rw [h2] at this; simp at this
    · simp at h
  | .new r k, st, st', fp, v, h, _, h2 => by
    simp only [Pg.runL] at h
    have := (runL_mono h).2.1 st.next (by simp)
    rw [h2] at this; simp at this

end
end Go.AM
namespace Go.AM
open Go

/-! # The slots that an operation looks at -/
def usesO : CO → List Nat
  | .t i => [i]
  | .c _ => []
def usesL : List CO → List Nat
  | [] => []
  | x :: l => usesO x ++ usesL l
def usesOpt : Option CO → List Nat
  | none => []
  | some x => usesO x
def usesP : List (Nat × CO) → List Nat
  | [] => []
  | x :: l => usesO x.2 ++ usesP l
def usesB : List (Nat × Nat × CO) → List Nat
  | [] => []
  | x :: l => usesO x.2.2 ++ usesB l

def usesC : COp → List Nat
  | .mov x => usesO x
  | .nilv _ => []
  | .pick c a b => usesO c ++ (usesO a ++ usesO b)
  | .box _ _ x => usesO x
  | .boxn _ _ _ _ _ => []
  | .build _ l => usesB l
  | .bslice _ _ _ _ _ l => usesP l
  | .load _ _ a => usesO a
  | .store _ a x => usesO a ++ usesO x
  | .nilc x => usesO x
  | .bin _ _ _ x y => usesO x ++ usesO y
  | .un _ x => usesO x
  | .conv _ x => usesO x
  | .ifc _ x => usesO x
  | .mkfn _ a b => usesL a ++ usesL b
  | .mkmap => []
  | .mkslice _ _ _ l c => usesO l ++ usesO c
  | .sstr x lo hi => usesO x ++ (usesOpt lo ++ usesOpt hi)
  | .slice _ _ x lo hi => usesO x ++ (usesOpt lo ++ usesOpt hi)
  | .faddr _ x => usesO x
  | .field _ _ _ x => usesO x
  | .iaddr _ _ x i => usesO x ++ usesO i
  | .aaddr _ _ x i => usesO x ++ usesO i
  | .istr x i => usesO x ++ usesO i
  | .iarr _ _ _ x i => usesO x ++ usesO i
  | .look _ _ _ x i => usesO x ++ usesO i
  | .mapup _ m i x => usesO m ++ (usesO i ++ usesO x)
  | .range x => usesO x
  | .next x => usesO x
  | .tass _ _ _ x => usesO x
  | .ext x _ => usesO x
  | .app _ _ _ x y => usesO x ++ usesO y
  | .len _ x => usesO x
  | .lenc _ => []
  | .cap x => usesO x
  | .copy _ _ x y => usesO x ++ usesO y
  | .clear _ _ x => usesO x
  | .mx _ x l => usesO x ++ usesL l
  | .rcv => []
  | .sldata x => usesO x
  | .ustr _ x n => usesO x ++ usesO n
  | .call f l => usesO f ++ usesL l
  | .pcall _ l => usesL l
  | .dfr f l => usesO f ++ usesL l
  | .pan x => usesO x
  | .bad => []

section
variable {s s' : List V}

theorem arg_frame {x : CO} (h : ∀ i ∈ usesO x, nth s i = nth s' i) : arg s x = arg s' x := by
  cases x with
  | t i => exact h i (by simp [usesO])
  | c x => rfl

theorem argL_frame : ∀ {l : List CO}, (∀ i ∈ usesL l, nth s i = nth s' i) → argL s l = argL s' l
  | [], _ => rfl
  | x :: l, h => by
    simp only [argL]
    rw [arg_frame (x := x) (fun i hi => h i (by simp [usesL, hi])), argL_frame (l := l) (fun i hi => h i (by simp [usesL, hi]))]

theorem argO_frame {x : Option CO} (h : ∀ i ∈ usesOpt x, nth s i = nth s' i) : argO s x = argO s' x := by
  cases x with
  | none => rfl
  | some x => simp only [argO]; rw [arg_frame (x := x) h]

theorem buildV_frame : ∀ {l : List (Nat × Nat × CO)} {z : V}, (∀ i ∈ usesB l, nth s i = nth s' i) → buildV s z l = buildV s' z l
  | [], _, _ => rfl
  | (a, b, x) :: l, z, h => by
    simp only [buildV]
    rw [arg_frame (x := x) (fun i hi => h i (by simp [usesB, hi]))]
    cases arg s' x with
    | none => rfl
    | some v =>
      simp only
      rw [buildV_frame (l := l) (fun i hi => h i (by simp [usesB, hi]))]

theorem setAll_frame {n : Nat} : ∀ {l : List (Nat × CO)} {xs : List V}, (∀ i ∈ usesP l, nth s i = nth s' i) → setAll s n xs l = setAll s' n xs l
  | [], _, _ => rfl
  | (a, x) :: l, xs, h => by
    simp only [setAll]
    rw [arg_frame (x := x) (fun i hi => h i (by simp [usesP, hi]))]
    cases arg s' x with
    | none => rfl
    | some v =>
      simp only
      rw [setAll_frame (l := l) (fun i hi => h i (by simp [usesP, hi]))]

theorem k1_frame {x : CO} {f f' : V → OpK} (h : ∀ i ∈ usesO x, nth s i = nth s' i) (hf : ∀ v, f v = f' v) : k1 s x f = k1 s' x f' := by
  unfold k1; rw [arg_frame h]; split
  · exact hf _
  · rfl

theorem k2_frame {x y : CO} {f : V → V → OpK} (h : ∀ i ∈ usesO x ++ usesO y, nth s i = nth s' i) : k2 s x y f = k2 s' x y f := by
  unfold k2; rw [arg_frame (x := x) (fun i hi => h i (by simp [hi])), arg_frame (x := y) (fun i hi => h i (by simp [hi]))]

theorem opK_frame {c : COp} (h : ∀ i ∈ usesC c, nth s i = nth s' i) : opK c s = opK c s' := by
  cases c
  case mov x => simp only [opK]; rw [arg_frame (x := x) h]
  case pick c a b =>
    simp only [opK]
    rw [arg_frame (x := a) (fun i hi => h i (by simp [usesC, hi])), arg_frame (x := b) (fun i hi => h i (by simp [usesC, hi]))]
    exact k1_frame (fun i hi => h i (by simp [usesC, hi])) (fun _ => rfl)
  case build z l => simp only [opK]; rw [buildV_frame (l := l) h]
  case bslice e n len z row l => simp only [opK]; rw [setAll_frame (l := l) h]
  case mkfn f a b =>
    simp only [opK]
    rw [argL_frame (l := a) (fun i hi => h i (by simp [usesC, hi])), argL_frame (l := b) (fun i hi => h i (by simp [usesC, hi]))]
  case sstr x lo hi =>
    simp only [opK]
    refine k1_frame (fun i hi => h i (by simp [usesC, hi])) (fun v => ?_)
    rw [argO_frame (x := lo) (fun i hi => h i (by simp [usesC, hi])), argO_frame (x := hi) (fun i hi => h i (by simp [usesC, hi]))]
  case slice e n x lo hi =>
    simp only [opK]
    refine k1_frame (fun i hi => h i (by simp [usesC, hi])) (fun v => ?_)
    rw [argO_frame (x := lo) (fun i hi => h i (by simp [usesC, hi])), argO_frame (x := hi) (fun i hi => h i (by simp [usesC, hi]))]
  case mapup k m i x =>
    simp only [opK, k2]
    rw [arg_frame (x := m) (fun i hi => h i (by simp [usesC, hi])), arg_frame (x := i) (fun i hi => h i (by simp [usesC, hi]))]
    simp only [k1]
    rw [arg_frame (x := x) (fun i hi => h i (by simp [usesC, hi]))]
  case mx b x l =>
    simp only [opK]
    refine k1_frame (fun i hi => h i (by simp [usesC, hi])) (fun v => ?_)
    rw [argL_frame (l := l) (fun i hi => h i (by simp [usesC, hi]))]
  case call f l =>
    simp only [opK]
    refine k1_frame (fun i hi => h i (by simp [usesC, hi])) (fun v => ?_)
    rw [argL_frame (l := l) (fun i hi => h i (by simp [usesC, hi]))]
  case pcall f l => simp only [opK]; rw [argL_frame (l := l) h]
  case dfr f l =>
    simp only [opK]
    refine k1_frame (fun i hi => h i (by simp [usesC, hi])) (fun v => ?_)
    rw [argL_frame (l := l) (fun i hi => h i (by simp [usesC, hi]))]
  all_goals first
    | rfl
    | exact k1_frame h (fun _ => rfl)
    | exact k2_frame h

end

/-! # One operation of a region, alone -/
def usesG : Option (Nat × Bool) → List Nat
  | none => []
  | some (d, _) => [d]

def dstIn (d : Option Nat) (l : List Nat) : Bool := match d with
  | none => false
  | some d => memN d l

def sameDst : Option Nat → Option Nat → Bool
  | some a, some b => Nat.beq a b
  | _, _ => false

/-- Neither sets what the other looks at or sets. -/
def apartF (x y : FOp) : Bool := !(dstIn x.2.dst (usesC y.2.op) || dstIn x.2.dst (usesG y.1) || dstIn y.2.dst (usesC x.2.op) || dstIn y.2.dst (usesG x.1) || sameDst x.2.dst y.2.dst)

abbrev Sg := List V × St

/-- What one operation, which does O, makes of slots and memory. -/
def FSg (O : List V → St → V → St → Prop) (x : FOp) (a b : Sg) : Prop :=
  (wantedV a.1 x.1 = some true ∧ ∃ v, O a.1 a.2 v b.2 ∧ b.1 = putS a.1 x.2.dst v) ∨
  (wantedV a.1 x.1 = some false ∧ b.1 = putS a.1 x.2.dst (.tup []) ∧ b.2 = a.2)

/-- What one operation makes of slots and memory. -/
def FS (C : Cfg) (E : Env) (x : FOp) (a b : Sg) : Prop :=
  FSg (fun s st v st' => opC C E x.2.op s st (fun v st => some (v, st)) (fun _ _ => none) = some (v, st')) x a b

theorem memN_iff {n : Nat} : ∀ {l : List Nat}, memN n l = true ↔ n ∈ l
  | [] => by simp [memN]
  | a :: l => by
    simp only [memN, Bool.or_eq_true, memN_iff (l := l), List.mem_cons]
    constructor
    · rintro (h | h)
      · exact .inl (Nat.eq_of_beq_eq_true h).symm
      · exact .inr h
    · rintro (h | h)
      · subst h; exact .inl (beq_self _)
      · exact .inr h

theorem wanted_frame {s s' : List V} {g : Option (Nat × Bool)} (h : ∀ i ∈ usesG g, nth s i = nth s' i) : wantedV s g = wantedV s' g := by
  cases g with
  | none => rfl
  | some p => obtain ⟨d, w⟩ := p; simp only [wantedV]; rw [h d (by simp [usesG])]

theorem putS_frame {s : List V} {d : Option Nat} {v : V} {l : List Nat} (h : dstIn d l = false) : ∀ i ∈ l, nth (putS s d v) i = nth s i := by
  intro i hi
  refine putS_other ?_
  rintro rfl
  simp only [dstIn] at h
  rw [memN_iff.2 hi] at h
  simp at h

theorem putS_comm {s : List V} {a b : Option Nat} {u v : V} (h : sameDst a b = false) : putS (putS s a u) b v = putS (putS s b v) a u := by
  cases a with
  | none => rfl
  | some a =>
    cases b with
    | none => rfl
    | some b =>
      have hne : a ≠ b := by rintro rfl; simp [sameDst] at h
      show setN (setN s a u) b v = setN (setN s b v) a u
      simp only [setN_eq]
      exact (List.set_comm u v hne)

/-- Operations whose slots are apart, and that change places at memory, change places. -/
theorem fs_swap {x y : FOp} {Ox Oy : List V → St → V → St → Prop} (hx : ∀ s s', (∀ i ∈ usesC x.2.op, nth s i = nth s' i) → ∀ st v st', Ox s st v st' → Ox s' st v st')
    (hy : ∀ s s', (∀ i ∈ usesC y.2.op, nth s i = nth s' i) → ∀ st v st', Oy s st v st' → Oy s' st v st') (ha : apartF x y = true)
    (hm : ∀ (s s' : List V) (st st1 st2 : St) (u v : V), Ox s st u st1 → Oy s' st1 v st2 → ∃ st', Oy s' st v st' ∧ Ox s st' u st2)
    {a b c : Sg} (h1 : FSg Ox x a b) (h2 : FSg Oy y b c) : ∃ b', FSg Oy y a b' ∧ FSg Ox x b' c := by
  unfold apartF at ha
  simp only [Bool.not_eq_true', Bool.or_eq_false_iff] at ha
  obtain ⟨⟨⟨⟨a1, a2⟩, a3⟩, a4⟩, a5⟩ := ha
  obtain ⟨s, st⟩ := a
  obtain ⟨s1, st1⟩ := b
  obtain ⟨s2, st2⟩ := c
  have opx : ∀ (s : List V) (v : V) (st : St) (u : V) (st' : St), Ox s st u st' → Ox (putS s y.2.dst v) st u st' := fun s v st u st' h => hx _ _ (fun i hi => (putS_frame a3 i hi).symm) _ _ _ h
  have opy : ∀ (s : List V) (v : V) (st : St) (u : V) (st' : St), Oy (putS s x.2.dst v) st u st' → Oy s st u st' := fun s v st u st' h => hy _ _ (putS_frame a1) _ _ _ h
  have wx : ∀ (s : List V) (v : V), wantedV (putS s y.2.dst v) x.1 = wantedV s x.1 := fun s v => wanted_frame (putS_frame a4)
  have wy : ∀ (s : List V) (v : V), wantedV (putS s x.2.dst v) y.1 = wantedV s y.1 := fun s v => wanted_frame (putS_frame a2)
  simp only [FSg] at h1 h2
  rcases h1 with ⟨w1, u, o1, rfl⟩ | ⟨w1, rfl, e1⟩ <;> rcases h2 with ⟨w2, v, o2, rfl⟩ | ⟨w2, rfl, e2⟩ <;> (try subst e1) <;> (try subst e2)
  · have o2 := opy _ _ _ _ _ o2
    rw [wy] at w2
    obtain ⟨st', q1, q2⟩ := hm s s st st1 st2 u v o1 o2
    refine ⟨(putS s y.2.dst v, st'), .inl ⟨w2, v, q1, rfl⟩, .inl ⟨by rw [wx]; exact w1, u, opx _ _ _ _ _ q2, ?_⟩⟩
    exact putS_comm a5
  · rw [wy] at w2
    exact ⟨(putS s y.2.dst (.tup []), st), .inr ⟨w2, rfl, rfl⟩, .inl ⟨by rw [wx]; exact w1, u, opx _ _ _ _ _ o1, putS_comm a5⟩⟩
  · have o2 := opy _ _ _ _ _ o2
    rw [wy] at w2
    exact ⟨(putS s y.2.dst v, st2), .inl ⟨w2, v, o2, rfl⟩, .inr ⟨by rw [wx]; exact w1, putS_comm a5, rfl⟩⟩
  · rw [wy] at w2
    exact ⟨(putS s y.2.dst (.tup []), st2), .inr ⟨w2, rfl, rfl⟩, .inr ⟨by rw [wx]; exact w1, putS_comm a5, rfl⟩⟩

theorem opC_frame {α : Type} {C : Cfg} {E : Env} {c : COp} {s s' : List V} (h : ∀ i ∈ usesC c, nth s i = nth s' i) {st : St} {k kp : V → St → Option α} : opC C E c s st k kp = opC C E c s' st k kp := by
  unfold opC; rw [opK_frame h]

theorem opCL_frame {α : Type} {C : Cfg} {E : Env} {c : COp} {s s' : List V} (h : ∀ i ∈ usesC c, nth s i = nth s' i) {st : St} {k : V → St → Log → Option α} : opCL C E c s st k = opCL C E c s' st k := by
  unfold opCL; rw [opK_frame h]

end Go.AM
namespace Go.AM
open Go

/-! # A region that draws its order -/
inductive RunO (R : Nat → Sg → Sg → Prop) : List Nat → Sg → Sg → Prop
  | nil (a : Sg) : RunO R [] a a
  | cons (i : Nat) (l : List Nat) (a b c : Sg) (h : R i a b) (r : RunO R l b c) : RunO R (i :: l) a c

def Sw (R : Nat → Sg → Sg → Prop) (t i : Nat) : Prop := ∀ a b c, R t a b → R i b c → ∃ b', R i a b' ∧ R t b' c

theorem RunO.front {R : Nat → Sg → Sg → Prop} {i : Nat} {T2 : List Nat} : ∀ {T1 : List Nat} {a c : Sg}, RunO R (T1 ++ i :: T2) a c → (∀ t ∈ T1, Sw R t i) → ∃ b, R i a b ∧ RunO R (T1 ++ T2) b c
  | [], a, c, h, _ => by
    cases h with
    | cons _ _ _ b _ h r => exact ⟨b, h, r⟩
  | t :: T1, a, c, h, hs => by
    cases h with
    | cons _ _ _ b _ h r =>
      obtain ⟨b1, q1, q2⟩ := RunO.front r (fun t ht => hs t (by simp [ht]))
      obtain ⟨b', r1, r2⟩ := hs t (by simp) a b b1 h q1
      exact ⟨b', r1, .cons t _ _ _ _ r2 q2⟩

/-- One operation is ahead of another, through edges. -/
inductive Reach (ops : Array Oper) : Nat → Nat → Prop
  | one (i : Nat) (o : Oper) (e : Edge) (hi : ops[i]? = some o) (he : e ∈ o.after.toList) (hb : Region.binds .any e = true) : Reach ops i e.on
  | more (i t : Nat) (o : Oper) (e : Edge) (hi : ops[i]? = some o) (he : e ∈ o.after.toList) (hb : Region.binds .any e = true) (r : Reach ops e.on t) : Reach ops i t

theorem precOf_eq : ∀ (l : List (List Nat)) (n : Nat), precOf l n = (l[n]?).getD []
  | [], n => by simp [precOf]
  | a :: l, 0 => rfl
  | a :: l, n + 1 => by show precOf l n = _; rw [precOf_eq l n]; simp

theorem mem_addN {t : Nat} : ∀ {r l : List Nat}, t ∈ addN l r → t ∈ l ∨ t ∈ r
  | [], l, h => .inl h
  | a :: r, l, h => by
    simp only [addN] at h
    rcases mem_addN h with h | h
    · split at h
      · exact .inl h
      · simp only [List.mem_cons] at h
        rcases h with rfl | h
        · exact .inr (by simp)
        · exact .inl h
    · exact .inr (by simp [h])

theorem mem_precAdd {t : Nat} {acc : List (List Nat)} : ∀ {es : List Edge} {r : List Nat}, t ∈ precAdd acc es r → t ∈ r ∨ ∃ e ∈ es, Region.binds .any e = true ∧ (t = e.on ∨ t ∈ precOf acc e.on)
  | [], r, h => .inl h
  | e :: es, r, h => by
    simp only [precAdd] at h
    rcases mem_precAdd h with h | ⟨e', h1, h2, h3⟩
    · split at h
      · rename_i hb
        rcases mem_addN h with h | h
        · rcases mem_addN h with h | h
          · exact .inl h
          · simp at h; exact .inr ⟨e, by simp, hb, .inl h⟩
        · exact .inr ⟨e, by simp, hb, .inr h⟩
      · exact .inl h
    · exact .inr ⟨e', by simp [h1], h2, h3⟩

theorem precsFrom_reach {ops : Array Oper} : ∀ (l : List Oper) (acc : List (List Nat)), ops.toList.drop acc.length = l → (∀ j t, t ∈ precOf acc j → Reach ops j t) → ∀ j t, t ∈ precOf (precsFrom l acc) j → Reach ops j t
  | [], acc, _, h, j, t, ht => h j t ht
  | o :: l, acc, hl, h, j, t, ht => by
    simp only [precsFrom] at ht
    refine precsFrom_reach l (acc ++ [precAdd acc o.after.toList []]) ?_ ?_ j t ht
    · rw [List.length_append, ← List.drop_drop, hl]; rfl
    · intro j t ht
      rw [precOf_eq] at ht
      by_cases hj : j < acc.length
      · rw [List.getElem?_append_left hj] at ht
        exact h j t (by rw [precOf_eq]; exact ht)
      · rw [List.getElem?_append_right (by omega)] at ht
        by_cases hj0 : j = acc.length
        · subst hj0
          simp only [Nat.sub_self, List.getElem?_cons_zero, Option.getD_some] at ht
          have hi : ops[acc.length]? = some o := by
            have : (ops.toList.drop acc.length)[0]? = some o := by rw [hl]; rfl
            rw [List.getElem?_drop] at this
            simpa using this
          rcases mem_precAdd ht with hh | ⟨e, h1, h2, rfl | h3⟩
          · simp at hh
          · exact .one _ o e hi h1 h2
          · exact .more _ t o e hi h1 h2 (h _ _ h3)
        · rw [List.getElem?_eq_none (by simp; omega)] at ht
          simp at ht

theorem precs_reach {ops : Array Oper} {j t : Nat} (h : t ∈ precOf (precs ops.toList) j) : Reach ops j t :=
  precsFrom_reach ops.toList [] rfl (fun j t h => by simp [precOf] at h) j t h

section
variable {P : Program} {hn : Hint} {C : Cfg} {E : Env} {B : Base} {ops : Array Oper}

theorem cFlat_get {dr : Bool} : ∀ {l : List Oper} {fl : List FOp}, cFlat P hn dr ops l = some fl → ∀ (i : Nat) (x : FOp), fl[i]? = some x → ∃ o g, l[i]? = some o ∧ cGuard ops o = some g ∧ x = (g, ⟨o.dst, quietCall hn dr (cOp P hn o)⟩)
  | [], fl, h, i, x, hx => by simp only [cFlat, Option.some.injEq] at h; subst h; simp at hx
  | o :: l, fl, h, i, x, hx => by
    obtain ⟨g, r, hg, hr, rfl⟩ := cFlat_cons h
    cases i with
    | zero => simp at hx; exact ⟨o, g, rfl, hg, hx.symm⟩
    | succ i => exact cFlat_get hr i x (by simpa using hx)

/-- One operation of a region that draws. -/
theorem fs_go (hE : EnvOk P B.gl E) (hS : SpOk P B.gl C) (hgl : hn.gl = B.gl) {rec : Bool} {Q : Exit → Act → List Frame → World → Prop} {dr : Bool} {fl : List FOp} (hfl : cFlat P hn dr ops ops.toList = some fl) {i : Nat} {rest : List Nat} {x : FOp} (hx : fl[i]? = some x)
    {s s1 : List V} {st st1 : St} (hfs : FS C E x (s, st) (s1, st1)) {F : Nat → Prop} {G : Gh} {a : Act} {cs : List Frame} {w : World} (xr : SR P B F G s st a cs w) (hrec : rec = true ∨ st.rc = .none)
    (hk : ∀ a' cs' w' F' G', (rec = true ∨ st1.rc = .none) → SR P B F' G' s1 st1 a' cs' w' → OpsGo P ops rec Q rest a' cs' w') : OpsGo P ops rec Q (i :: rest) a cs w := by
  obtain ⟨o, g, ho, hg, rfl⟩ := cFlat_get hfl i x hx
  have hi : ops[i]? = some o := by simpa using ho
  rcases hfs with ⟨w1, v, o1, e1⟩ | ⟨w1, e1, e2⟩
  · refine op_go hE hS hgl hi hg xr w1 hrec o1 ?_ ?_
    · intro v' st' a' cs' w' F' G' hout hrc x'
      simp only [Option.some.injEq, Prod.mk.injEq] at hout
      obtain ⟨rfl, rfl⟩ := hout
      refine hk a' cs' w' F' G' (hrec.imp id hrc) ?_
      rw [show s1 = putS s o.dst v' from e1]
      exact x'
    · intro v u st' w' F' G' hout
      simp at hout
  · refine skip_go hi hg xr w1 (fun x' => hk _ _ _ F G ?_ ?_)
    · rw [show st1 = st from e2]; exact hrec
    · rw [show s1 = putS s o.dst (.tup []) from e1, show st1 = st from e2]; exact x'

theorem lin_go (hE : EnvOk P B.gl E) (hS : SpOk P B.gl C) (hgl : hn.gl = B.gl) {rec : Bool} {Q : Exit → Act → List Frame → World → Prop} {dr : Bool} {fl : List FOp} (hfl : cFlat P hn dr ops ops.toList = some fl) {R : Nat → Sg → Sg → Prop}
    (hR : ∀ i a b, R i a b → ∃ x, fl[i]? = some x ∧ FS C E x a b)
    (hsw : ∀ t i, t < i → i < ops.size → ¬ t ∈ precOf (precs ops.toList) i → Sw R t i)
    (hdown : ∀ i o e, ops[i]? = some o → e ∈ o.after.toList → Region.binds .any e = true → e.on < i)
    {s' : List V} {st' : St} (hQ : ∀ a cs w F G, SR P B F G s' st' a cs w → (rec = true ∨ st'.rc = .none) → Q .normal a cs w) :
    ∀ (m : Nat) (T : List Nat) (t : Nat) (listed : Array Bool) (s : List V) (st : St) (a : Act) (cs : List Frame) (w : World) (F : Nat → Prop) (G : Gh), T.length = m → T.Pairwise (· < ·) → listed.size = ops.size →
      (∀ i, i ∈ T ↔ listed[i]? = some false) → (∀ j, j < ops.size → j ∉ T → ∀ q, Reach ops j q → q ∉ T) → RunO R T (s, st) (s', st') → SR P B F G s st a cs w → (rec = true ∨ st.rc = .none) →
      OpsGo P ops rec Q (Region.linearise.go .any ops m t listed []) a cs w
  | 0, T, t, listed, s, st, a, cs, w, F, G, hm, _, _, _, _, hrun, x, hrec => by
    have : T = [] := List.length_eq_zero_iff.1 hm
    subst this
    cases hrun
    simp only [Region.linearise.go, List.reverse_nil, OpsGo]
    exact hQ a cs w F G x hrec
  | m + 1, T, t, listed, s, st, a, cs, w, F, G, hm, hp, hls, hl, hcl, hrun, x, hrec => by
    have hTn : ∀ i ∈ T, i < ops.size := fun i hi => by have := (hl i).1 hi; have := lt_of_some this; omega
    -- ready ones
    have hready : ∀ i, i ∈ Region.ready .any ops listed → i ∈ T ∧ ∀ o, ops[i]? = some o → ∀ e ∈ o.after.toList, Region.binds .any e = true → e.on ∉ T := by
      intro i hi
      simp only [Region.ready, List.mem_filter, List.mem_range, Bool.and_eq_true, Bool.not_eq_true'] at hi
      obtain ⟨h1, h2, h3⟩ := hi
      have hif : listed[i]? = some false := by
        have hlt : i < listed.size := by rw [hls]; exact h1
        simp only [Array.getD_eq_getD_getElem?] at h2
        rw [Array.getElem?_eq_getElem hlt] at h2 ⊢
        simpa using h2
      refine ⟨(hl i).2 hif, ?_⟩
      intro o ho e he hb hin
      rw [ho] at h3
      simp only [Option.map_some, Option.getD_some] at h3
      rw [← Array.all_toList] at h3
      have := List.all_eq_true.1 h3 e he
      rw [hb] at this
      simp only [Bool.not_true, Bool.false_or, Array.getD_eq_getD_getElem?] at this
      rw [(hl e.on).1 hin] at this
      simp at this
    have hne : Region.ready .any ops listed ≠ [] := by
      cases T with
      | nil => simp at hm
      | cons i0 T' =>
        have h0 := (hl i0).1 (by simp)
        have h0n := hTn i0 (by simp)
        obtain ⟨o, ho⟩ : ∃ o, ops[i0]? = some o := ⟨ops[i0], by simp [h0n]⟩
        intro hnil
        have : i0 ∈ Region.ready .any ops listed := by
          simp only [Region.ready, List.mem_filter, List.mem_range, Bool.and_eq_true, Bool.not_eq_true']
          refine ⟨h0n, by simp [Array.getD_eq_getD_getElem?, h0], ?_⟩
          rw [ho]
          simp only [Option.map_some, Option.getD_some]
          rw [← Array.all_toList]
          refine List.all_eq_true.2 (fun e he => ?_)
          cases hb : Region.binds .any e with
          | false => rfl
          | true =>
            have hlt := hdown i0 o e ho he hb
            have hnin : e.on ∉ i0 :: T' := by
              intro hin
              rcases List.mem_cons.1 hin with h | h
              · omega
              · have := (List.pairwise_cons.1 hp).1 _ h; omega
            have hlt' : e.on < listed.size := by omega
            have : listed[e.on]? ≠ some false := fun h => hnin ((hl e.on).2 h)
            rw [Array.getElem?_eq_getElem hlt'] at this
            simp only [Bool.not_true, Bool.false_or, Array.getD_eq_getD_getElem?, Array.getElem?_eq_getElem hlt', Option.getD_some]
            cases hq : listed[e.on] with
            | true => rfl
            | false => rw [hq] at this; exact absurd rfl this
        rw [hnil] at this
        simp at this
    simp only [Region.linearise.go]
    change OpsGo P ops rec Q (match (Region.ready .any ops listed)[t % (Region.ready .any ops listed).length]? with
      | some i => Region.linearise.go .any ops m (t / (Region.ready .any ops listed).length) (listed.setIfInBounds i true) [i]
      | none => [].reverse) a cs w
    cases hi : (Region.ready .any ops listed)[t % (Region.ready .any ops listed).length]? with
    | none =>
      exfalso
      have hlen : 0 < (Region.ready .any ops listed).length := List.length_pos_iff.2 hne
      have := Nat.mod_lt t hlen
      rw [List.getElem?_eq_none_iff] at hi
      omega
    | some i =>
      simp only []
      rw [linearise_go_acc, List.reverse_singleton, List.singleton_append]
      obtain ⟨hiT, hpre⟩ := hready i (List.mem_of_getElem? hi)
      have hin := hTn i hiT
      obtain ⟨o, ho⟩ : ∃ o, ops[i]? = some o := ⟨ops[i], by simp [hin]⟩
      have hreach : ∀ q, Reach ops i q → q ∉ T := by
        intro q hq
        cases hq with
        | one _ o' e hi' he hb => rw [ho] at hi'; simp at hi'; subst hi'; exact hpre o ho e he hb
        | more _ _ o' e hi' he hb r =>
          rw [ho] at hi'; simp at hi'; subst hi'
          have := hdown i o e ho he hb
          exact hcl e.on (by omega) (hpre o ho e he hb) q r
      obtain ⟨T1, T2, rfl⟩ := List.append_of_mem hiT
      have hp1 := List.pairwise_append.1 hp
      have hlt1 : ∀ t ∈ T1, t < i := fun t ht => hp1.2.2 t ht i (by simp)
      have hlt2 : ∀ t ∈ T2, i < t := fun t ht => (List.pairwise_cons.1 hp1.2.1).1 t ht
      obtain ⟨⟨s1, st1⟩, q1, q2⟩ := hrun.front (fun t ht => hsw t i (hlt1 t ht) hin (fun hmem => hreach t (precs_reach hmem) (by simp [ht])))
      obtain ⟨fx, hfx, hfs⟩ := hR i _ _ q1
      refine fs_go hE hS hgl hfl hfx hfs x hrec ?_
      intro a' cs' w' F' G' hrec' x'
      have hmem : ∀ j, j ∈ T1 ++ T2 ↔ j ∈ T1 ++ i :: T2 ∧ j ≠ i := by
        intro j
        simp only [List.mem_append, List.mem_cons]
        constructor
        · rintro (h | h)
          · exact ⟨.inl h, by have := hlt1 j h; omega⟩
          · exact ⟨.inr (.inr h), by have := hlt2 j h; omega⟩
        · rintro ⟨h | h | h, hne⟩
          · exact .inl h
          · exact absurd h hne
          · exact .inr h
      refine lin_go hE hS hgl hfl hR hsw hdown hQ m (T1 ++ T2) _ (listed.setIfInBounds i true) s1 st1 a' cs' w' F' G' ?_ ?_ (by simpa using hls) ?_ ?_ q2 x' hrec'
      · simp only [List.length_append, List.length_cons] at hm ⊢; omega
      · refine List.pairwise_append.2 ⟨hp1.1, (List.pairwise_cons.1 hp1.2.1).2, fun p hp q hq => hp1.2.2 p hp q (by simp [hq])⟩
      · intro j
        rw [hmem, Array.getElem?_setIfInBounds, hl j]
        by_cases hj : i = j
        · subst hj; simp
        · rw [if_neg hj]
          constructor
          · exact fun h => h.1
          · exact fun h => ⟨h, fun e => hj e.symm⟩
      · intro j hj hjn q hq hin'
        rw [hmem] at hin' hjn
        by_cases hji : j = i
        · subst hji; exact hreach q hq hin'.1
        · exact hcl j hj (fun h => hjn ⟨h, hji⟩) q hq hin'.1

end
end Go.AM
