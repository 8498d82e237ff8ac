/- Which functions there are is as the document says: the card of ListKnowns holds: for every name and number, the listed tables being as the program's text lays them. (A part of the way there: Kn2 and what follows.) -/
import Derived.Test.YtgfdikdjbnigeaaGreatDoorA03
set_option linter.all false
set_option linter.deprecated false
namespace Go.Proofs.AMz
open Go.AM Go
set_option maxRecDepth 100000

theorem cfg_fn {f : FuncId} {e : Ent} (h : nthE ents f = some e) : cfg.fn f = some e.fn := cfgOf_fn f e h

/-- A call of one of the tables' functions: its first block. -/
theorem ei_call {f : FuncId} {e : Ent} (h : nthE ents f = some e) {args : List V} {st : St} {o : Out} (hb : nthB e.bs 0 cfg (EI cfg) (Rn cfg e) args st = some o) : EI cfg f args st = some o :=
  call_lim (cfg_fn h) ((entsOk cfg).get h) hb

/-- A block of one of the tables' functions. -/
theorem rn_blk {f : FuncId} {e : Ent} (h : nthE ents f = some e) {k : Nat} {xs : List V} {st : St} {o : Out} (hb : nthB e.bs k cfg (EI cfg) (Rn cfg e) xs st = some o) : Rn cfg e k xs st = some o :=
  blk_lim ((entsOk cfg).get h) hb

/-- A pure call: data alone. -/
theorem callF_pure {f : FuncId} {args : List V} {st st' : St} {v : V} (hk : cfg.keepArgs f = false) (hp : cfg.isPure f = true) (hf : (eachP (freezeP 4) args).run st = some (args, st)) (ha : (allD args).isSome = true)
    (h : EI cfg f args st0 = some (.ret v, st')) (hv : allTupD v = true) (hs : cfg.sp f = none := by rfl) : callF cfg (EI cfg) (.d (.fn (.func f) [] [])) args st = some (.ret v, st) := by
  obtain ⟨ds, hds⟩ := Option.isSome_iff_exists.1 ha
  simp [callF, spOf, hs, callF0, fnOf, hk, hp, hf, pureCall, hds, h, hv]

theorem each_data (n : Nat) : ∀ (ds : List D), eachP (freezeP (n + 1)) (ds.map V.d) = .ret (ds.map V.d)
  | [] => rfl
  | x :: l => by
    have ih := each_data n l
    have h1 : freezeP (n + 1) (.d x) = .ret (.d x) := rfl
    simp only [List.map_cons, eachP, h1, Pg.bind, ih]

theorem pure_call {f : FuncId} (ds : List D) {v : V} {st' : St} (hk : cfg.keepArgs f = false) (hp : cfg.isPure f = true) (h : EI cfg f (ds.map .d) st0 = some (.ret v, st')) (hv : allTupD v = true) (st : St) (hs : cfg.sp f = none := by rfl) :
    callF cfg (EI cfg) (.d (.fn (.func f) [] [])) (ds.map .d) st = some (.ret v, st) := by
  refine callF_pure hk hp ?_ (by rw [allD_map]; rfl) h hv hs
  rw [each_data]; rfl

section
variable {α : Type}
theorem o1_some (v : V) (k : V → Option α) : o1 (some v) k = k v := rfl
theorem b1_t (a b : Option α) : b1 (.d (.bool true)) a b = a := rfl
theorem b1_f (a b : Option α) : b1 (.d (.bool false)) a b = b := rfl
theorem c1_ret (v : V) (st : St) (k kp : V → St → Option α) : c1 (some (.ret v, st)) k kp = k v st := rfl
end
theorem bin_s (b : Bool) (x y : List UInt8) : vBin .eql .bad b (.d (.str x)) (.d (.str y)) = some (.d (.bool (x == y))) := rfl
theorem bin_i (op : BinOp) (t : EqT) (b : Bool) (k : IntKind) (x y : Int) (hs : op ≠ .shl) (hr : op ≠ .shr) : vBin op t b (.d (.int k x)) (.d (.int k y)) = (intOp op k x y).map V.d := by
  cases op <;> simp [vBin] at hs hr ⊢ <;> (cases intOp _ k x y <;> rfl)
theorem tell0_one (v : D) : tell0 false [(.d v, none)] st0 = some (.ret (.d v), st0) := by
  simp [tell0, st0, tell, readRes, Pg.bind, Pg.run, oneOrTup, freezeP]

def w0 : List (List UInt8) := [[108,101,110,103,116,104], [117,116,102,56,98,121,116,101,108,101,110,103,116,104], [110,111,116], [116,121,112,101], [107,101,121,115], [107,101,121,115,95,117,110,115,111,114,116,101,100], [114,101,118,101,114,115,101], [115,111,114,116], [117,110,105,113,117,101], [109,105,110], [109,97,120], [97,100,100], [97,110,121], [97,108,108], [102,108,97,116,116,101,110], [116,111,106,115,111,110], [116,111,115,116,114,105,110,103], [102,114,111,109,106,115,111,110], [116,111,110,117,109,98,101,114], [101,120,112,108,111,100,101], [105,109,112,108,111,100,101], [97,115,99,105,105,95,100,111,119,110,99,97,115,101], [97,115,99,105,105,95,117,112,99,97,115,101], [102,108,111,111,114], [99,101,105,108], [114,111,117,110,100], [97,98,115], [116,111,95,101,110,116,114,105,101,115], [102,114,111,109,95,101,110,116,114,105,101,115], [116,114,97,110,115,112,111,115,101], [97,108,108,112,97,116,104,115]]
def w1' : List (List UInt8) := [[102,108,97,116,116,101,110], [104,97,115], [99,111,110,116,97,105,110,115], [105,110,115,105,100,101], [115,112,108,105,116], [115,116,97,114,116,115,119,105,116,104], [101,110,100,115,119,105,116,104], [108,116,114,105,109,115,116,114], [114,116,114,105,109,115,116,114], [106,111,105,110], [105,110,100,105,99,101,115], [103,101,116,112,97,116,104], [100,101,108,112,97,116,104,115]]
def w2 : List (List UInt8) := [[115,101,116,112,97,116,104], [116,101,115,116], [109,97,116,99,104,101,115]]
def t0 : List UInt8 := [108,101,110,103,116,104,32,117,116,102,56,98,121,116,101,108,101,110,103,116,104,32,110,111,116,32,116,121,112,101,32,107,101,121,115,32,107,101,121,115,95,117,110,115,111,114,116,101,100,32,114,101,118,101,114,115,101,32,115,111,114,116,32,117,110,105,113,117,101,32,109,105,110,32,109,97,120,32,97,100,100,32,97,110,121,32,97,108,108,32,102,108,97,116,116,101,110,32,116,111,106,115,111,110,32,116,111,115,116,114,105,110,103,32,102,114,111,109,106,115,111,110,32,116,111,110,117,109,98,101,114,32,101,120,112,108,111,100,101,32,105,109,112,108,111,100,101,32,97,115,99,105,105,95,100,111,119,110,99,97,115,101,32,97,115,99,105,105,95,117,112,99,97,115,101,32,102,108,111,111,114,32,99,101,105,108,32,114,111,117,110,100,32,97,98,115,32,116,111,95,101,110,116,114,105,101,115,32,102,114,111,109,95,101,110,116,114,105,101,115,32,116,114,97,110,115,112,111,115,101,32,97,108,108,112,97,116,104,115]
def t1 : List UInt8 := [102,108,97,116,116,101,110,32,104,97,115,32,99,111,110,116,97,105,110,115,32,105,110,115,105,100,101,32,115,112,108,105,116,32,115,116,97,114,116,115,119,105,116,104,32,101,110,100,115,119,105,116,104,32,108,116,114,105,109,115,116,114,32,114,116,114,105,109,115,116,114,32,106,111,105,110,32,105,110,100,105,99,101,115,32,103,101,116,112,97,116,104,32,100,101,108,112,97,116,104,115]
def t2 : List UInt8 := [115,101,116,112,97,116,104,32,116,101,115,116,32,109,97,116,99,104,101,115]

/-- Is it the answer that is awaited, and is the memory as it began? -/
def isOut (d : D) (x : Option Out) : Bool := match x with
  | some (.ret (.d y), _) => eqD 24 d y
  | _ => false
theorem isOut_spec {d : D} {x : Option Out} (h : isOut d x = true) : ∃ st, x = some (.ret (.d d), st) := by
  unfold isOut at h
  split at h
  · rename_i y st; exact ⟨st, by rw [eqD_spec _ _ _ h]⟩
  · simp at h

def words (l : List (List UInt8)) : D := .ro (l.map D.str) false

theorem split_of {t : List UInt8} {l : List (List UInt8)} (h : isOut (words l) (cr cfg ents 100000 35 0 [.d (.str t), .d (.str [32])] st0) = true) : ∃ st, EI cfg 35 [.d (.str t), .d (.str [32])] st0 = some (.ret (.d (words l)), st) := by
  obtain ⟨st, h⟩ := isOut_spec h
  exact ⟨st, cr_EI cfgOf_fn (entsOk cfg) h⟩

theorem split0 : isOut (words w0) (cr cfg ents 100000 35 0 [.d (.str t0), .d (.str [32])] st0) = true := by kernel_rfl
theorem split1 : isOut (words w1') (cr cfg ents 100000 35 0 [.d (.str t1), .d (.str [32])] st0) = true := by kernel_rfl
theorem split2 : isOut (words w2) (cr cfg ents 100000 35 0 [.d (.str t2), .d (.str [32])] st0) = true := by kernel_rfl

theorem wrap_succ {i : Nat} (h : i < 1000) : IntKind.wrap .i64 ((i : Int) + 1) = ((i + 1 : Nat) : Int) := by
  have : (i : Int) + 1 = ((i + 1 : Nat) : Int) := by omega
  rw [this]
  simp only [IntKind.wrap, IntKind.bits, IntKind.signed]
  simp
  omega

theorem inL {s : List UInt8} {l : List (List UInt8)} (hl : l.length < 500) : ∀ (n i : Nat), i + n = l.length → 
    Rn cfg T16 1 [.d (.str s), .d (words l), .d (.int .i64 i)] st0 = some (.ret (.d (.bool ((l.drop i).any (· == s)))), st0)
  | 0, i, h => by
    refine rn_blk (f := 16) rfl ?_
    change (B16_1 (.d (.str s)) (.d (words l)) (.d (.int .i64 i))).run cfg (EI cfg) (Rn cfg T16) st0 = _
    unfold B16_1
    simp only [Bk.run, Bg.run]
    have hlt : ¬ i < l.length := by omega
    have hd : l.drop i = [] := List.drop_eq_nil_of_le (by omega)
    simp [words, p1, lenP, Pg.run, bin_i, intOp, o1_some, hlt, b1_f, hd, tell0_one]
  | n + 1, i, h => by
    refine rn_blk (f := 16) rfl ?_
    change (B16_1 (.d (.str s)) (.d (words l)) (.d (.int .i64 i))).run cfg (EI cfg) (Rn cfg T16) st0 = _
    unfold B16_1
    simp only [Bk.run, Bg.run]
    have hlt : i < l.length := by omega
    have hg : l[i]? = some l[i] := List.getElem?_eq_getElem hlt
    have hd : l.drop i = l[i] :: l.drop (i + 1) := List.drop_eq_getElem_cons hlt
    have ih := inL (s := s) hl n (i + 1) (by omega)
    simp only [words, p1, lenP, Pg.run, bin_i, ne_eq, reduceCtorEq, not_false_eq_true, intOp, Option.map_some, o1_some, List.length_map, Int.ofNat_lt, hlt, decide_true, b1_t, iaddrP, vInt, indexAddrP]
    simp only [Int.natCast_nonneg, Int.ofNat_lt, hlt, and_self, if_true, Int.toNat_natCast, List.getElem?_map, hg, Option.map_some, D.cells, List.length_cons, List.length_nil, Nat.zero_add, beq_self, cond_true, Pg.run, loadP, partD, bin_s, o1_some]
    rw [hd, List.any_cons]
    cases hb : (l[i] == s) with
    | true => simp [b1_t, tell0_one]
    | false =>
      simp only [b1_f, bin_i, ne_eq, reduceCtorEq, not_false_eq_true, intOp, Option.map_some, o1_some, wrap_succ (show i < 1000 by omega), Bool.false_or]
      exact ih

theorem in_ok {s t : List UInt8} {l : List (List UInt8)} (hl : l.length < 500) (h : isOut (words l) (cr cfg ents 100000 35 0 [.d (.str t), .d (.str [32])] st0) = true) :
    EI cfg 16 [.d (.str s), .d (.str t)] st0 = some (.ret (.d (.bool (l.any (· == s)))), st0) := by
  obtain ⟨st, hs⟩ := split_of h
  refine ei_call (e := T16) rfl ?_
  change (B16_0 (.d (.str s)) (.d (.str t))).run cfg (EI cfg) (Rn cfg T16) st0 = _
  unfold B16_0
  simp only [Bk.run, Bg.run]
  have := pure_call (f := 35) [.str t, .str [32]] rfl rfl hs rfl st0
  simp only [List.map_cons, List.map_nil] at this
  rw [this, c1_ret]
  exact inL hl l.length 0 (by omega)

def refK (s : List UInt8) (n : Int) : Bool := bif n == 0 then w0.any (· == s) else bif n == 1 then w1'.any (· == s) else bif n == 2 then w2.any (· == s) else bif n == 3 then s == [103,115,117,98] else false

theorem ref_ok (s : List UInt8) (n : Int) : EI cfg 6 [.d (.str s), .d (.int .i64 n)] st0 = some (.ret (.d (.bool (refK s n))), st0) := by
  refine ei_call (e := T6) rfl ?_
  change (B6_0 (.d (.str s)) (.d (.int .i64 n))).run cfg (EI cfg) (Rn cfg T6) st0 = _
  unfold B6_0 refK
  simp only [Bk.run, Bg.run]
  have h0 := pure_call (f := 16) [.str s, .str t0] rfl rfl (in_ok (s := s) (by decide) split0) rfl st0
  have h1 := pure_call (f := 16) [.str s, .str t1] rfl rfl (in_ok (s := s) (by decide) split1) rfl st0
  have h2 := pure_call (f := 16) [.str s, .str t2] rfl rfl (in_ok (s := s) (by decide) split2) rfl st0
  simp only [List.map_cons, List.map_nil, t0, t1, t2] at h0 h1 h2
  simp only [bin_i, ne_eq, reduceCtorEq, not_false_eq_true, intOp, Option.map_some, o1_some, h0, h1, h2, c1_ret, tell0_one, bin_s]
  cases n == 0 with
  | true => simp [b1_t]
  | false =>
    cases n == 1 with
    | true => simp [b1_t, b1_f]
    | false =>
      cases n == 2 with
      | true => simp [b1_t, b1_f]
      | false =>
        cases n == 3 with
        | true => simp [b1_t, b1_f]
        | false => simp [b1_f]

/-- Where a number stands among a few. -/
theorem indexL {l : List Int} (hl : l.length < 500) {n : Int} {t : Bool} : ∀ (k i : Nat), i + k = l.length →
    ∃ j : Int, Rn cfg T34 1 [.d (.ro (l.map (D.int .i64)) t), .d (.int .i64 n), .d (.int .i64 l.length), .d (.int .i64 i)] st0 = some (.ret (.d (.int .i64 j)), st0) ∧ decide (j ≥ 0) = (l.drop i).any (· == n)
  | 0, i, h => by
    refine ⟨-1, rn_blk (f := 34) rfl ?_, ?_⟩
    · change (B34_1 (.d (.ro (l.map (D.int .i64)) t)) (.d (.int .i64 n)) (.d (.int .i64 l.length)) (.d (.int .i64 i))).run cfg (EI cfg) (Rn cfg T34) st0 = _
      unfold B34_1
      simp only [Bk.run, Bg.run]
      have hlt : ¬ i < l.length := by omega
      simp [bin_i, intOp, o1_some, hlt, b1_f, tell0_one]
    · have hd : l.drop i = [] := List.drop_eq_nil_of_le (by omega)
      rw [hd]; rfl
  | k + 1, i, h => by
    have hlt : i < l.length := by omega
    have hg : l[i]? = some l[i] := List.getElem?_eq_getElem hlt
    have hd : l.drop i = l[i] :: l.drop (i + 1) := List.drop_eq_getElem_cons hlt
    obtain ⟨j, ih, ihj⟩ := indexL hl (n := n) (t := t) k (i + 1) (by omega)
    have comm : (n == l[i]) = (l[i] == n) := by rw [Bool.eq_iff_iff, beq_iff_eq, beq_iff_eq]; exact eq_comm
    have key : ∀ o, (bif (l[i] == n) then some (Res.ret (.d (.int .i64 i)), st0) else Rn cfg T34 1 [.d (.ro (l.map (D.int .i64)) t), .d (.int .i64 n), .d (.int .i64 l.length), .d (.int .i64 (i + 1 : Nat))] st0) = some o →
        Rn cfg T34 1 [.d (.ro (l.map (D.int .i64)) t), .d (.int .i64 n), .d (.int .i64 l.length), .d (.int .i64 i)] st0 = some o := by
      intro o ho
      refine rn_blk (f := 34) rfl ?_
      change (B34_1 (.d (.ro (l.map (D.int .i64)) t)) (.d (.int .i64 n)) (.d (.int .i64 l.length)) (.d (.int .i64 i))).run cfg (EI cfg) (Rn cfg T34) st0 = _
      unfold B34_1
      simp only [Bk.run, Bg.run]
      simp only [p1, lenP, Pg.run, bin_i, ne_eq, reduceCtorEq, not_false_eq_true, intOp, Option.map_some, o1_some, List.length_map, Int.ofNat_lt, hlt, decide_true, b1_t, iaddrP, vInt, indexAddrP]
      simp only [Int.natCast_nonneg, Int.ofNat_lt, hlt, and_self, if_true, Int.toNat_natCast, List.getElem?_map, hg, Option.map_some, D.cells, List.length_cons, List.length_nil, Nat.zero_add, beq_self, cond_true, Pg.run, loadP, partD, bin_i, ne_eq, reduceCtorEq, not_false_eq_true, intOp, o1_some, comm]
      cases hb : (l[i] == n) with
      | true => rw [hb] at ho; simpa [b1_t, tell0_one] using ho
      | false =>
        rw [hb] at ho
        simp only [b1_f, bin_i, ne_eq, reduceCtorEq, not_false_eq_true, intOp, Option.map_some, o1_some, wrap_succ (show i < 1000 by omega)]
        exact ho
    rw [hd, List.any_cons]
    cases hb : (l[i] == n) with
    | true => exact ⟨i, key _ (by rw [hb]; rfl), by simp⟩
    | false => exact ⟨j, key _ (by rw [hb]; exact ih), by rw [Bool.false_or]; exact ihj⟩

theorem contains_ok {l : List Int} (hl : l.length < 500) (n : Int) (t : Bool) : EI cfg 14 [.d (.ro (l.map (D.int .i64)) t), .d (.int .i64 n)] st0 = some (.ret (.d (.bool (l.any (· == n)))), st0) := by
  obtain ⟨j, hj, hd⟩ := indexL hl (n := n) (t := t) l.length 0 (by omega)
  have hi : EI cfg 34 [.d (.ro (l.map (D.int .i64)) t), .d (.int .i64 n)] st0 = some (.ret (.d (.int .i64 j)), st0) := by
    refine ei_call (e := T34) rfl ?_
    change (B34_0 (.d (.ro (l.map (D.int .i64)) t)) (.d (.int .i64 n))).run cfg (EI cfg) (Rn cfg T34) st0 = _
    unfold B34_0
    simp only [Bk.run, Bg.run]
    simp only [p1, lenP, Pg.run, List.length_map]
    exact hj
  refine ei_call (e := T14) rfl ?_
  change (B14_0 _ _).run cfg (EI cfg) (Rn cfg T14) st0 = _
  unfold B14_0
  simp only [Bk.run, Bg.run]
  have := pure_call (f := 34) [.ro (l.map (D.int .i64)) t, .int .i64 n] rfl rfl hi rfl st0
  simp only [List.map_cons, List.map_nil] at this
  rw [this, c1_ret]
  simp only [bin_i, ne_eq, reduceCtorEq, not_false_eq_true, intOp, Option.map_some, o1_some, tell0_one, hd, List.drop_zero]

theorem contains_nil (n : Int) : EI cfg 14 [.d .snil, .d (.int .i64 n)] st0 = some (.ret (.d (.bool false)), st0) := by
  have hi : EI cfg 34 [.d .snil, .d (.int .i64 n)] st0 = some (.ret (.d (.int .i64 (-1))), st0) := by
    refine ei_call (e := T34) rfl ?_
    change (B34_0 (.d .snil) (.d (.int .i64 n))).run cfg (EI cfg) (Rn cfg T34) st0 = _
    unfold B34_0
    simp only [Bk.run, Bg.run]
    simp only [p1, lenP, Pg.run]
    refine rn_blk (f := 34) rfl ?_
    change (B34_1 (.d .snil) (.d (.int .i64 n)) (.d (.int .i64 0)) (.d (.int .i64 0))).run cfg (EI cfg) (Rn cfg T34) st0 = _
    unfold B34_1
    simp only [Bk.run, Bg.run]
    simp [bin_i, intOp, o1_some, b1_f, tell0_one]
  refine ei_call (e := T14) rfl ?_
  change (B14_0 _ _).run cfg (EI cfg) (Rn cfg T14) st0 = _
  unfold B14_0
  simp only [Bk.run, Bg.run]
  have := pure_call (f := 34) [.snil, .int .i64 n] rfl rfl hi rfl st0
  simp only [List.map_cons, List.map_nil] at this
  rw [this, c1_ret]
  simp [bin_i, intOp, o1_some, tell0_one]

/-- How many arguments a known name takes. -/
def tabK : List (List UInt8 × List Int) := [([108,101,110,103,116,104], [0]), ([117,116,102,56,98,121,116,101,108,101,110,103,116,104], [0]), ([110,111,116], [0]), ([116,121,112,101], [0]), ([107,101,121,115], [0]), ([107,101,121,115,95,117,110,115,111,114,116,101,100], [0]), ([114,101,118,101,114,115,101], [0]), ([115,111,114,116], [0]), ([117,110,105,113,117,101], [0]), ([109,105,110], [0]), ([109,97,120], [0]), ([97,100,100], [0]), ([97,110,121], [0]), ([97,108,108], [0]), ([116,111,106,115,111,110], [0]), ([116,111,115,116,114,105,110,103], [0]), ([102,114,111,109,106,115,111,110], [0]), ([116,111,110,117,109,98,101,114], [0]), ([101,120,112,108,111,100,101], [0]), ([105,109,112,108,111,100,101], [0]), ([97,115,99,105,105,95,100,111,119,110,99,97,115,101], [0]), ([97,115,99,105,105,95,117,112,99,97,115,101], [0]), ([102,108,111,111,114], [0]), ([99,101,105,108], [0]), ([114,111,117,110,100], [0]), ([97,98,115], [0]), ([116,111,95,101,110,116,114,105,101,115], [0]), ([102,114,111,109,95,101,110,116,114,105,101,115], [0]), ([116,114,97,110,115,112,111,115,101], [0]), ([97,108,108,112,97,116,104,115], [0]), ([102,108,97,116,116,101,110], [0, 1]), ([104,97,115], [1]), ([99,111,110,116,97,105,110,115], [1]), ([105,110,115,105,100,101], [1]), ([115,112,108,105,116], [1]), ([115,116,97,114,116,115,119,105,116,104], [1]), ([101,110,100,115,119,105,116,104], [1]), ([108,116,114,105,109,115,116,114], [1]), ([114,116,114,105,109,115,116,114], [1]), ([106,111,105,110], [1]), ([105,110,100,105,99,101,115], [1]), ([103,101,116,112,97,116,104], [1]), ([100,101,108,112,97,116,104,115], [1]), ([115,101,116,112,97,116,104], [2]), ([116,101,115,116], [2]), ([109,97,116,99,104,101,115], [2]), ([103,115,117,98], [3])]

def arD (l : List Int) : D := .ro (l.map (D.int .i64)) true

theorem arity_run : tabK.all (fun p => isOut (arD p.2) (cr cfg ents 1000 15 0 [.d (.str p.1)] st0)) = true := by kernel_rfl

theorem arity_known {p : List UInt8 × List Int} (h : p ∈ tabK) : ∃ st, EI cfg 15 [.d (.str p.1)] st0 = some (.ret (.d (arD p.2)), st) := by
  obtain ⟨st, h⟩ := isOut_spec (List.all_eq_true.1 arity_run p h)
  exact ⟨st, cr_EI cfgOf_fn (entsOk cfg) h⟩

theorem arity_other {s : List UInt8} (h : ∀ p ∈ tabK, (s == p.1) = false) : EI cfg 15 [.d (.str s)] st0 = some (.ret (.d .snil), st0) := by
  have e0 : (s == [108,101,110,103,116,104]) = false := h ([108,101,110,103,116,104], [0]) (by simp [tabK])
  have e1 : (s == [117,116,102,56,98,121,116,101,108,101,110,103,116,104]) = false := h ([117,116,102,56,98,121,116,101,108,101,110,103,116,104], [0]) (by simp [tabK])
  have e2 : (s == [110,111,116]) = false := h ([110,111,116], [0]) (by simp [tabK])
  have e3 : (s == [116,121,112,101]) = false := h ([116,121,112,101], [0]) (by simp [tabK])
  have e4 : (s == [107,101,121,115]) = false := h ([107,101,121,115], [0]) (by simp [tabK])
  have e5 : (s == [107,101,121,115,95,117,110,115,111,114,116,101,100]) = false := h ([107,101,121,115,95,117,110,115,111,114,116,101,100], [0]) (by simp [tabK])
  have e6 : (s == [114,101,118,101,114,115,101]) = false := h ([114,101,118,101,114,115,101], [0]) (by simp [tabK])
  have e7 : (s == [115,111,114,116]) = false := h ([115,111,114,116], [0]) (by simp [tabK])
  have e8 : (s == [117,110,105,113,117,101]) = false := h ([117,110,105,113,117,101], [0]) (by simp [tabK])
  have e9 : (s == [109,105,110]) = false := h ([109,105,110], [0]) (by simp [tabK])
  have e10 : (s == [109,97,120]) = false := h ([109,97,120], [0]) (by simp [tabK])
  have e11 : (s == [97,100,100]) = false := h ([97,100,100], [0]) (by simp [tabK])
  have e12 : (s == [97,110,121]) = false := h ([97,110,121], [0]) (by simp [tabK])
  have e13 : (s == [97,108,108]) = false := h ([97,108,108], [0]) (by simp [tabK])
  have e14 : (s == [116,111,106,115,111,110]) = false := h ([116,111,106,115,111,110], [0]) (by simp [tabK])
  have e15 : (s == [116,111,115,116,114,105,110,103]) = false := h ([116,111,115,116,114,105,110,103], [0]) (by simp [tabK])
  have e16 : (s == [102,114,111,109,106,115,111,110]) = false := h ([102,114,111,109,106,115,111,110], [0]) (by simp [tabK])
  have e17 : (s == [116,111,110,117,109,98,101,114]) = false := h ([116,111,110,117,109,98,101,114], [0]) (by simp [tabK])
  have e18 : (s == [101,120,112,108,111,100,101]) = false := h ([101,120,112,108,111,100,101], [0]) (by simp [tabK])
  have e19 : (s == [105,109,112,108,111,100,101]) = false := h ([105,109,112,108,111,100,101], [0]) (by simp [tabK])
  have e20 : (s == [97,115,99,105,105,95,100,111,119,110,99,97,115,101]) = false := h ([97,115,99,105,105,95,100,111,119,110,99,97,115,101], [0]) (by simp [tabK])
  have e21 : (s == [97,115,99,105,105,95,117,112,99,97,115,101]) = false := h ([97,115,99,105,105,95,117,112,99,97,115,101], [0]) (by simp [tabK])
  have e22 : (s == [102,108,111,111,114]) = false := h ([102,108,111,111,114], [0]) (by simp [tabK])
  have e23 : (s == [99,101,105,108]) = false := h ([99,101,105,108], [0]) (by simp [tabK])
  have e24 : (s == [114,111,117,110,100]) = false := h ([114,111,117,110,100], [0]) (by simp [tabK])
  have e25 : (s == [97,98,115]) = false := h ([97,98,115], [0]) (by simp [tabK])
  have e26 : (s == [116,111,95,101,110,116,114,105,101,115]) = false := h ([116,111,95,101,110,116,114,105,101,115], [0]) (by simp [tabK])
  have e27 : (s == [102,114,111,109,95,101,110,116,114,105,101,115]) = false := h ([102,114,111,109,95,101,110,116,114,105,101,115], [0]) (by simp [tabK])
  have e28 : (s == [116,114,97,110,115,112,111,115,101]) = false := h ([116,114,97,110,115,112,111,115,101], [0]) (by simp [tabK])
  have e29 : (s == [97,108,108,112,97,116,104,115]) = false := h ([97,108,108,112,97,116,104,115], [0]) (by simp [tabK])
  have e30 : (s == [102,108,97,116,116,101,110]) = false := h ([102,108,97,116,116,101,110], [0, 1]) (by simp [tabK])
  have e31 : (s == [104,97,115]) = false := h ([104,97,115], [1]) (by simp [tabK])
  have e32 : (s == [99,111,110,116,97,105,110,115]) = false := h ([99,111,110,116,97,105,110,115], [1]) (by simp [tabK])
  have e33 : (s == [105,110,115,105,100,101]) = false := h ([105,110,115,105,100,101], [1]) (by simp [tabK])
  have e34 : (s == [115,112,108,105,116]) = false := h ([115,112,108,105,116], [1]) (by simp [tabK])
  have e35 : (s == [115,116,97,114,116,115,119,105,116,104]) = false := h ([115,116,97,114,116,115,119,105,116,104], [1]) (by simp [tabK])
  have e36 : (s == [101,110,100,115,119,105,116,104]) = false := h ([101,110,100,115,119,105,116,104], [1]) (by simp [tabK])
  have e37 : (s == [108,116,114,105,109,115,116,114]) = false := h ([108,116,114,105,109,115,116,114], [1]) (by simp [tabK])
  have e38 : (s == [114,116,114,105,109,115,116,114]) = false := h ([114,116,114,105,109,115,116,114], [1]) (by simp [tabK])
  have e39 : (s == [106,111,105,110]) = false := h ([106,111,105,110], [1]) (by simp [tabK])
  have e40 : (s == [105,110,100,105,99,101,115]) = false := h ([105,110,100,105,99,101,115], [1]) (by simp [tabK])
  have e41 : (s == [103,101,116,112,97,116,104]) = false := h ([103,101,116,112,97,116,104], [1]) (by simp [tabK])
  have e42 : (s == [100,101,108,112,97,116,104,115]) = false := h ([100,101,108,112,97,116,104,115], [1]) (by simp [tabK])
  have e43 : (s == [115,101,116,112,97,116,104]) = false := h ([115,101,116,112,97,116,104], [2]) (by simp [tabK])
  have e44 : (s == [116,101,115,116]) = false := h ([116,101,115,116], [2]) (by simp [tabK])
  have e45 : (s == [109,97,116,99,104,101,115]) = false := h ([109,97,116,99,104,101,115], [2]) (by simp [tabK])
  have e46 : (s == [103,115,117,98]) = false := h ([103,115,117,98], [3]) (by simp [tabK])
  refine ei_call (e := T15) rfl ?_
  change (B15_0 (.d (.str s))).run cfg (EI cfg) (Rn cfg T15) st0 = _
  unfold B15_0
  simp only [Bk.run, Bg.run]
  simp only [bin_s, o1_some, e0, e1, e2, e3, e4, e5, e6, e7, e8, e9, e10, e11, e12, e13, e14, e15, e16, e17, e18, e19, e20, e21, e22, e23, e24, e25, e26, e27, e28, e29, e30, e31, e32, e33, e34, e35, e36, e37, e38, e39, e40, e41, e42, e43, e44, e45, e46, b1_f]
  refine rn_blk (f := 15) rfl ?_
  change (B15_2 (.d (.str s))).run cfg (EI cfg) (Rn cfg T15) st0 = _
  unfold B15_2
  simp only [Bk.run, Bg.run]
  simp only [bin_s, o1_some, e0, e1, e2, e3, e4, e5, e6, e7, e8, e9, e10, e11, e12, e13, e14, e15, e16, e17, e18, e19, e20, e21, e22, e23, e24, e25, e26, e27, e28, e29, e30, e31, e32, e33, e34, e35, e36, e37, e38, e39, e40, e41, e42, e43, e44, e45, e46, b1_f]
  refine rn_blk (f := 15) rfl ?_
  change (B15_4 (.d (.str s))).run cfg (EI cfg) (Rn cfg T15) st0 = _
  unfold B15_4
  simp only [Bk.run, Bg.run]
  simp only [bin_s, o1_some, e0, e1, e2, e3, e4, e5, e6, e7, e8, e9, e10, e11, e12, e13, e14, e15, e16, e17, e18, e19, e20, e21, e22, e23, e24, e25, e26, e27, e28, e29, e30, e31, e32, e33, e34, e35, e36, e37, e38, e39, e40, e41, e42, e43, e44, e45, e46, b1_f]
  refine rn_blk (f := 15) rfl ?_
  change (B15_6 (.d (.str s))).run cfg (EI cfg) (Rn cfg T15) st0 = _
  unfold B15_6
  simp only [Bk.run, Bg.run]
  simp only [bin_s, o1_some, e0, e1, e2, e3, e4, e5, e6, e7, e8, e9, e10, e11, e12, e13, e14, e15, e16, e17, e18, e19, e20, e21, e22, e23, e24, e25, e26, e27, e28, e29, e30, e31, e32, e33, e34, e35, e36, e37, e38, e39, e40, e41, e42, e43, e44, e45, e46, b1_f, tell0_one]

theorem known_other {s : List UInt8} (h : ∀ p ∈ tabK, (s == p.1) = false) (n : Int) : EI cfg 5 [.d (.str s), .d (.int .i64 n)] st0 = some (.ret (.d (.bool false)), st0) := by
  refine ei_call (e := T5) rfl ?_
  change (B5_0 _ _).run cfg (EI cfg) (Rn cfg T5) st0 = _
  unfold B5_0
  simp only [Bk.run, Bg.run]
  have h1 := pure_call (f := 15) [.str s] rfl rfl (arity_other h) rfl st0
  have h2 := pure_call (f := 14) [.snil, .int .i64 n] rfl rfl (contains_nil n) rfl st0
  simp only [List.map_cons, List.map_nil] at h1 h2
  rw [h1, c1_ret, h2, c1_ret]
  exact tell0_one _

theorem known_known {p : List UInt8 × List Int} (h : p ∈ tabK) (hl : p.2.length < 500) (n : Int) : EI cfg 5 [.d (.str p.1), .d (.int .i64 n)] st0 = some (.ret (.d (.bool (p.2.any (· == n)))), st0) := by
  obtain ⟨st, ha⟩ := arity_known h
  refine ei_call (e := T5) rfl ?_
  change (B5_0 _ _).run cfg (EI cfg) (Rn cfg T5) st0 = _
  unfold B5_0
  simp only [Bk.run, Bg.run]
  have h1 := pure_call (f := 15) [.str p.1] rfl rfl ha rfl st0
  have h2 := pure_call (f := 14) [arD p.2, .int .i64 n] rfl rfl (contains_ok hl n true) rfl st0
  simp only [List.map_cons, List.map_nil] at h1 h2
  rw [h1, c1_ret, h2, c1_ret]
  exact tell0_one _

/-- The two answers agree. -/
theorem ref_other {s : List UInt8} (h : ∀ p ∈ tabK, (s == p.1) = false) (n : Int) : refK s n = false := by
  have e0 : ([108,101,110,103,116,104] == s) = false := by have := h ([108,101,110,103,116,104], [0]) (by simp [tabK]); rw [beq_eq_false_iff_ne] at this ⊢; exact fun q => this q.symm
  have e1 : ([117,116,102,56,98,121,116,101,108,101,110,103,116,104] == s) = false := by have := h ([117,116,102,56,98,121,116,101,108,101,110,103,116,104], [0]) (by simp [tabK]); rw [beq_eq_false_iff_ne] at this ⊢; exact fun q => this q.symm
  have e2 : ([110,111,116] == s) = false := by have := h ([110,111,116], [0]) (by simp [tabK]); rw [beq_eq_false_iff_ne] at this ⊢; exact fun q => this q.symm
  have e3 : ([116,121,112,101] == s) = false := by have := h ([116,121,112,101], [0]) (by simp [tabK]); rw [beq_eq_false_iff_ne] at this ⊢; exact fun q => this q.symm
  have e4 : ([107,101,121,115] == s) = false := by have := h ([107,101,121,115], [0]) (by simp [tabK]); rw [beq_eq_false_iff_ne] at this ⊢; exact fun q => this q.symm
  have e5 : ([107,101,121,115,95,117,110,115,111,114,116,101,100] == s) = false := by have := h ([107,101,121,115,95,117,110,115,111,114,116,101,100], [0]) (by simp [tabK]); rw [beq_eq_false_iff_ne] at this ⊢; exact fun q => this q.symm
  have e6 : ([114,101,118,101,114,115,101] == s) = false := by have := h ([114,101,118,101,114,115,101], [0]) (by simp [tabK]); rw [beq_eq_false_iff_ne] at this ⊢; exact fun q => this q.symm
  have e7 : ([115,111,114,116] == s) = false := by have := h ([115,111,114,116], [0]) (by simp [tabK]); rw [beq_eq_false_iff_ne] at this ⊢; exact fun q => this q.symm
  have e8 : ([117,110,105,113,117,101] == s) = false := by have := h ([117,110,105,113,117,101], [0]) (by simp [tabK]); rw [beq_eq_false_iff_ne] at this ⊢; exact fun q => this q.symm
  have e9 : ([109,105,110] == s) = false := by have := h ([109,105,110], [0]) (by simp [tabK]); rw [beq_eq_false_iff_ne] at this ⊢; exact fun q => this q.symm
  have e10 : ([109,97,120] == s) = false := by have := h ([109,97,120], [0]) (by simp [tabK]); rw [beq_eq_false_iff_ne] at this ⊢; exact fun q => this q.symm
  have e11 : ([97,100,100] == s) = false := by have := h ([97,100,100], [0]) (by simp [tabK]); rw [beq_eq_false_iff_ne] at this ⊢; exact fun q => this q.symm
  have e12 : ([97,110,121] == s) = false := by have := h ([97,110,121], [0]) (by simp [tabK]); rw [beq_eq_false_iff_ne] at this ⊢; exact fun q => this q.symm
  have e13 : ([97,108,108] == s) = false := by have := h ([97,108,108], [0]) (by simp [tabK]); rw [beq_eq_false_iff_ne] at this ⊢; exact fun q => this q.symm
  have e14 : ([116,111,106,115,111,110] == s) = false := by have := h ([116,111,106,115,111,110], [0]) (by simp [tabK]); rw [beq_eq_false_iff_ne] at this ⊢; exact fun q => this q.symm
  have e15 : ([116,111,115,116,114,105,110,103] == s) = false := by have := h ([116,111,115,116,114,105,110,103], [0]) (by simp [tabK]); rw [beq_eq_false_iff_ne] at this ⊢; exact fun q => this q.symm
  have e16 : ([102,114,111,109,106,115,111,110] == s) = false := by have := h ([102,114,111,109,106,115,111,110], [0]) (by simp [tabK]); rw [beq_eq_false_iff_ne] at this ⊢; exact fun q => this q.symm
  have e17 : ([116,111,110,117,109,98,101,114] == s) = false := by have := h ([116,111,110,117,109,98,101,114], [0]) (by simp [tabK]); rw [beq_eq_false_iff_ne] at this ⊢; exact fun q => this q.symm
  have e18 : ([101,120,112,108,111,100,101] == s) = false := by have := h ([101,120,112,108,111,100,101], [0]) (by simp [tabK]); rw [beq_eq_false_iff_ne] at this ⊢; exact fun q => this q.symm
  have e19 : ([105,109,112,108,111,100,101] == s) = false := by have := h ([105,109,112,108,111,100,101], [0]) (by simp [tabK]); rw [beq_eq_false_iff_ne] at this ⊢; exact fun q => this q.symm
  have e20 : ([97,115,99,105,105,95,100,111,119,110,99,97,115,101] == s) = false := by have := h ([97,115,99,105,105,95,100,111,119,110,99,97,115,101], [0]) (by simp [tabK]); rw [beq_eq_false_iff_ne] at this ⊢; exact fun q => this q.symm
  have e21 : ([97,115,99,105,105,95,117,112,99,97,115,101] == s) = false := by have := h ([97,115,99,105,105,95,117,112,99,97,115,101], [0]) (by simp [tabK]); rw [beq_eq_false_iff_ne] at this ⊢; exact fun q => this q.symm
  have e22 : ([102,108,111,111,114] == s) = false := by have := h ([102,108,111,111,114], [0]) (by simp [tabK]); rw [beq_eq_false_iff_ne] at this ⊢; exact fun q => this q.symm
  have e23 : ([99,101,105,108] == s) = false := by have := h ([99,101,105,108], [0]) (by simp [tabK]); rw [beq_eq_false_iff_ne] at this ⊢; exact fun q => this q.symm
  have e24 : ([114,111,117,110,100] == s) = false := by have := h ([114,111,117,110,100], [0]) (by simp [tabK]); rw [beq_eq_false_iff_ne] at this ⊢; exact fun q => this q.symm
  have e25 : ([97,98,115] == s) = false := by have := h ([97,98,115], [0]) (by simp [tabK]); rw [beq_eq_false_iff_ne] at this ⊢; exact fun q => this q.symm
  have e26 : ([116,111,95,101,110,116,114,105,101,115] == s) = false := by have := h ([116,111,95,101,110,116,114,105,101,115], [0]) (by simp [tabK]); rw [beq_eq_false_iff_ne] at this ⊢; exact fun q => this q.symm
  have e27 : ([102,114,111,109,95,101,110,116,114,105,101,115] == s) = false := by have := h ([102,114,111,109,95,101,110,116,114,105,101,115], [0]) (by simp [tabK]); rw [beq_eq_false_iff_ne] at this ⊢; exact fun q => this q.symm
  have e28 : ([116,114,97,110,115,112,111,115,101] == s) = false := by have := h ([116,114,97,110,115,112,111,115,101], [0]) (by simp [tabK]); rw [beq_eq_false_iff_ne] at this ⊢; exact fun q => this q.symm
  have e29 : ([97,108,108,112,97,116,104,115] == s) = false := by have := h ([97,108,108,112,97,116,104,115], [0]) (by simp [tabK]); rw [beq_eq_false_iff_ne] at this ⊢; exact fun q => this q.symm
  have e30 : ([102,108,97,116,116,101,110] == s) = false := by have := h ([102,108,97,116,116,101,110], [0, 1]) (by simp [tabK]); rw [beq_eq_false_iff_ne] at this ⊢; exact fun q => this q.symm
  have e31 : ([104,97,115] == s) = false := by have := h ([104,97,115], [1]) (by simp [tabK]); rw [beq_eq_false_iff_ne] at this ⊢; exact fun q => this q.symm
  have e32 : ([99,111,110,116,97,105,110,115] == s) = false := by have := h ([99,111,110,116,97,105,110,115], [1]) (by simp [tabK]); rw [beq_eq_false_iff_ne] at this ⊢; exact fun q => this q.symm
  have e33 : ([105,110,115,105,100,101] == s) = false := by have := h ([105,110,115,105,100,101], [1]) (by simp [tabK]); rw [beq_eq_false_iff_ne] at this ⊢; exact fun q => this q.symm
  have e34 : ([115,112,108,105,116] == s) = false := by have := h ([115,112,108,105,116], [1]) (by simp [tabK]); rw [beq_eq_false_iff_ne] at this ⊢; exact fun q => this q.symm
  have e35 : ([115,116,97,114,116,115,119,105,116,104] == s) = false := by have := h ([115,116,97,114,116,115,119,105,116,104], [1]) (by simp [tabK]); rw [beq_eq_false_iff_ne] at this ⊢; exact fun q => this q.symm
  have e36 : ([101,110,100,115,119,105,116,104] == s) = false := by have := h ([101,110,100,115,119,105,116,104], [1]) (by simp [tabK]); rw [beq_eq_false_iff_ne] at this ⊢; exact fun q => this q.symm
  have e37 : ([108,116,114,105,109,115,116,114] == s) = false := by have := h ([108,116,114,105,109,115,116,114], [1]) (by simp [tabK]); rw [beq_eq_false_iff_ne] at this ⊢; exact fun q => this q.symm
  have e38 : ([114,116,114,105,109,115,116,114] == s) = false := by have := h ([114,116,114,105,109,115,116,114], [1]) (by simp [tabK]); rw [beq_eq_false_iff_ne] at this ⊢; exact fun q => this q.symm
  have e39 : ([106,111,105,110] == s) = false := by have := h ([106,111,105,110], [1]) (by simp [tabK]); rw [beq_eq_false_iff_ne] at this ⊢; exact fun q => this q.symm
  have e40 : ([105,110,100,105,99,101,115] == s) = false := by have := h ([105,110,100,105,99,101,115], [1]) (by simp [tabK]); rw [beq_eq_false_iff_ne] at this ⊢; exact fun q => this q.symm
  have e41 : ([103,101,116,112,97,116,104] == s) = false := by have := h ([103,101,116,112,97,116,104], [1]) (by simp [tabK]); rw [beq_eq_false_iff_ne] at this ⊢; exact fun q => this q.symm
  have e42 : ([100,101,108,112,97,116,104,115] == s) = false := by have := h ([100,101,108,112,97,116,104,115], [1]) (by simp [tabK]); rw [beq_eq_false_iff_ne] at this ⊢; exact fun q => this q.symm
  have e43 : ([115,101,116,112,97,116,104] == s) = false := by have := h ([115,101,116,112,97,116,104], [2]) (by simp [tabK]); rw [beq_eq_false_iff_ne] at this ⊢; exact fun q => this q.symm
  have e44 : ([116,101,115,116] == s) = false := by have := h ([116,101,115,116], [2]) (by simp [tabK]); rw [beq_eq_false_iff_ne] at this ⊢; exact fun q => this q.symm
  have e45 : ([109,97,116,99,104,101,115] == s) = false := by have := h ([109,97,116,99,104,101,115], [2]) (by simp [tabK]); rw [beq_eq_false_iff_ne] at this ⊢; exact fun q => this q.symm
  have e46 : ([103,115,117,98] == s) = false := by have := h ([103,115,117,98], [3]) (by simp [tabK]); rw [beq_eq_false_iff_ne] at this ⊢; exact fun q => this q.symm
  have g : (s == [103,115,117,98]) = false := h ([103,115,117,98], [3]) (by simp [tabK])
  simp only [refK, w0, w1', w2, List.any_cons, List.any_nil, e0, e1, e2, e3, e4, e5, e6, e7, e8, e9, e10, e11, e12, e13, e14, e15, e16, e17, e18, e19, e20, e21, e22, e23, e24, e25, e26, e27, e28, e29, e30, e31, e32, e33, e34, e35, e36, e37, e38, e39, e40, e41, e42, e43, e44, e45, e46, g, Bool.or_self]
  cases n == 0 <;> cases n == 1 <;> cases n == 2 <;> cases n == 3 <;> rfl

def sameK (p : List UInt8 × List Int) : Bool := (p.2.any (· == 0) == w0.any (· == p.1)) && ((p.2.any (· == 1) == w1'.any (· == p.1)) && ((p.2.any (· == 2) == w2.any (· == p.1)) && ((p.2.any (· == 3) == (p.1 == [103,115,117,98])) && p.2.all (fun x => x == 0 || x == 1 || x == 2 || x == 3))))
theorem same_run : tabK.all (fun p => sameK p && decide (p.2.length < 500)) = true := by decide +kernel

theorem ref_known {p : List UInt8 × List Int} (h : p ∈ tabK) (n : Int) : p.2.any (· == n) = refK p.1 n := by
  have h1 := List.all_eq_true.1 same_run p h
  simp only [sameK, Bool.and_eq_true, beq_iff_eq] at h1
  obtain ⟨⟨q0, q1, q2, q3, q4⟩, _⟩ := h1
  unfold refK
  by_cases h0 : n = 0
  · subst h0; exact q0
  by_cases h1 : n = 1
  · subst h1; exact q1
  by_cases h2 : n = 2
  · subst h2; exact q2
  by_cases h3 : n = 3
  · subst h3; exact q3
  have e0 : (n == 0) = false := by simpa using h0
  have e1 : (n == 1) = false := by simpa using h1
  have e2 : (n == 2) = false := by simpa using h2
  have e3 : (n == 3) = false := by simpa using h3
  rw [e0, e1, e2, e3]
  simp only [cond_false]
  rw [List.any_eq_false]
  intro x hx
  have := List.all_eq_true.1 q4 x hx
  simp only [Bool.or_eq_true, beq_iff_eq] at this
  simp only [beq_iff_eq]
  omega

theorem both_ok (s : List UInt8) (n : Int) : EI cfg 5 [.d (.str s), .d (.int .i64 n)] st0 = some (.ret (.d (.bool (refK s n))), st0) := by
  by_cases h : ∃ p ∈ tabK, (s == p.1) = true
  · obtain ⟨p, hp, hs⟩ := h
    have hs : s = p.1 := by simpa using hs
    subst hs
    have h1 := List.all_eq_true.1 same_run p hp
    simp only [Bool.and_eq_true, decide_eq_true_eq] at h1
    rw [← ref_known hp n]
    exact known_known hp h1.2 n
  · have h : ∀ p ∈ tabK, (s == p.1) = false := fun p hp => by
      cases hq : s == p.1 with
      | false => rfl
      | true => exact absurd ⟨p, hp, hq⟩ h
    rw [ref_other h n]
    exact known_other h n

/-- The law, at the limit. -/
theorem law_ok (s : List UInt8) (n : Int) : EI cfg 3 [.d (.str s), .d (.int .i64 n)] st0 = some (.ret (.d (.bool true)), st0) := by
  obtain ⟨st, hs⟩ := shown_EI
  refine ei_call (e := T3) rfl ?_
  change (B3_0 _ _).run cfg (EI cfg) (Rn cfg T3) st0 = _
  unfold B3_0
  simp only [Bk.run, Bg.run]
  have h1 := pure_call (f := 4) [] rfl rfl hs rfl st0
  have h2 := pure_call (f := 5) [.str s, .int .i64 n] rfl rfl (both_ok s n) rfl st0
  have h3 := pure_call (f := 6) [.str s, .int .i64 n] rfl rfl (ref_ok s n) rfl st0
  simp only [List.map_cons, List.map_nil] at h1 h2 h3
  rw [h1, c1_ret]
  simp only [wantV, h2, h3, c1_ret, vBin, vEq, o1_some, w1, g1, vPick, vBool, nthV, nth, cond_true, beq_self_eq_true, tell0_one]
end Go.Proofs.AMz
