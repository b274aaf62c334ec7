/- Counts: a flag of a letter; a meta command. -/
import Derived.Test.YtdmepoiijgejhaaDoorK3
import Derived.Test.YtdmepoiijgejhaaDoorK4
set_option maxRecDepth 100000
namespace Go.Proofs.YtdmepoiijgejhaaDoor
open Go Go.Eng

theorem flatMap_at {α : Type} (f : α → List Value) (n : Nat) (hn : ∀ x, (f x).length = n) (l : List α) (i : Nat) (x : α) (h : l[i]? = some x) : ((l.flatMap f).drop (i * n)).take n = f x := by
  induction l generalizing i with
  | nil => simp at h
  | cons q r ih =>
    have hq := hn q
    rw [List.flatMap_cons]
    cases i with
    | zero =>
      simp only [List.getElem?_cons_zero, Option.some.injEq] at h
      subst h
      rw [Nat.zero_mul, List.drop_zero, List.take_append_of_le_length (by omega), List.take_of_length_le (by omega)]
    | succ i =>
      rw [List.getElem?_cons_succ] at h
      rw [List.drop_append, List.drop_of_length_le (by rw [hq, Nat.succ_mul]; omega), List.nil_append, hq, show (i + 1) * n - n = i * n from by rw [Nat.succ_mul]; omega]
      exact ih i h
theorem flatMap_len {α : Type} (f : α → List Value) (n : Nat) (hn : ∀ x, (f x).length = n) (l : List α) : (l.flatMap f).length = l.length * n := by
  induction l with
  | nil => simp
  | cons q r ih => rw [List.flatMap_cons, List.length_append, hn, ih, List.length_cons, Nat.succ_mul]; omega

/-- a flag -/
structure Flg where
  letter : Nat
  arg : List UInt8
  has : Bool
def flC (x : Flg) : List Value := [.int .u8 (x.letter : Int), strv x.arg, .bool x.has]
def flsC (l : List Flg) : List Value := l.flatMap flC
theorem flsC_at (l : List Flg) (i : Nat) (x : Flg) (h : l[i]? = some x) : ((flsC l).drop (i * 3)).take 3 = flC x := flatMap_at flC 3 (fun _ => rfl) l i x h
theorem flsC_len (l : List Flg) : (flsC l).length = l.length * 3 := flatMap_len flC 3 (fun _ => rfl) l
/-- what stands behind a letter first -/
def argM : List Flg → Nat → List UInt8 × Bool
  | [], _ => ([], false)
  | x :: r, c => if x.letter = c then (x.arg, true) else argM r c
theorem argM_drop (l : List Flg) (i c : Nat) (x : Flg) (h : l[i]? = some x) : argM (l.drop i) c = if x.letter = c then (x.arg, true) else argM (l.drop (i + 1)) c := by
  obtain ⟨hi, rfl⟩ := List.getElem?_eq_some_iff.1 h
  rw [List.drop_eq_getElem_cons hi]
  rfl
theorem arg_fn (fl : List Flg) (a : Option Addr) (m c : Nat) (hm : m = fl.length) (hb : fl.length ≤ 9223372036854775807) (k : Nat) :
    FnS Tryd.prog 62 [.slice a m c, .int .u8 (k : Int)] (fun h => Rdl h a (flsC fl)) [] (fun v H => v = .tuple #[strv (argM fl k).1, .bool (argM fl k).2] ∧ H = []) := by
  subst hm
  refine fn_body Tryd.func62 rfl Tryd.ntmps62 rfl ?_
  intro F hF
  refine g_sr ?_
  refine Li As ?_
  refine Li As ?_
  refine g_ne ?_
  refine g_seq ?_
  refine g_sr ?_
  refine Li Mv ?_
  refine Li (Ln T.sl_32) ?_
  refine Li Mv ?_
  refine g_ne ?_
  refine g_block ?_
  refine Lo (ι := Nat) [11, 12, 13, 7, 14, 15, 16, 17, 18, 19, 4, 5, 20, 10] (fun i => i ≤ fl.length ∧ argM (fl.drop i) k = argM fl k) (fun i => [(10, .int .i64 (i : Int))]) (fun i => []) (fun i => fl.length - i) (0) ⟨Nat.zero_le _, rfl⟩ ?_
  rintro i ⟨hi, he⟩
  refine g_sr ?_
  refine Li Cm ?_
  refine g_ne ?_
  refine g_seq ?_
  refine g_cond rfl ?_ ?_
  · intro h1
    replace h1 := nrm h1
    obtain ⟨x, e1⟩ : ∃ x, fl[i]? = some x := ⟨_, List.getElem?_eq_getElem (show i < fl.length by omega)⟩
    have k1 : ((flsC fl).drop (i * 3)).take 3 = [.int .u8 (x.letter : Int), strv x.arg, .bool x.has] := flsC_at fl i x e1
    have hl := flsC_len fl
    have a0 : a.isSome = true := hF.some (by omega)
    have e2 := argM_drop fl i k x e1
    rw [he] at e2
    refine g_skip ?_
    refine e_then ?_
    refine g_seq ?_
    refine g_block ?_
    refine g_sr ?_
    refine Li (Ix T.sl_32) ?_
    refine Lp (oLN T.ag_63 ?_)
    refine Lp (oA T.zc_63 fun b1 => ?_)
    refine Lp (oSW T.ag_63 ?_)
    refine g_ne ?_
    refine g_sr ?_
    refine Li (Fa T.fld_63_0) ?_
    refine Lp (oL T.sc_5 ?_)
    refine Li Mv ?_
    refine Li Cm ?_
    refine g_ne ?_
    refine g_cond rfl ?_ ?_
    · intro h2
      replace h2 := nrm h2
      rw [if_pos (by omega)] at e2
      refine g_sr ?_
      refine Li (Fa T.fld_63_1) ?_
      refine Lp (oL T.sc_9 ?_)
      refine Li As ?_
      refine Li As ?_
      refine g_ne ?_
      refine g_ret ?_
      refine e_block_ret ?_
      refine e_then_ret ?_
      refine e_then_ret ?_
      refine e_block_ret ?_
      refine e_then_ret ?_
      refine Rt2 [] Tryd.results62 ?_
      rw [e2]
      exact ⟨rfl, rfl⟩
    · intro h2
      replace h2 := nrm h2
      rw [if_neg (by omega)] at e2
      refine g_skip ?_
      refine e_block ?_
      refine e_then ?_
      refine g_region ?_
      refine Li Im ?_
      refine Li Mv ?_
      refine g_nil ?_
      refine Ro (i + 1) (⟨by omega, e2.symm⟩) (by omega)
  · intro h1
    replace h1 := nrm h1
    refine g_exit ?_
    refine e_then_exit ?_
    refine e_then_exit ?_
    refine e_block_hit ?_
    refine e_then ?_
    refine g_sr ?_
    refine Li As ?_
    refine Li As ?_
    refine g_ne ?_
    refine g_ret ?_
    refine Rt2 [] Tryd.results62 ?_
    rw [List.drop_of_length_le (by omega)] at he
    rw [← he]
    exact ⟨rfl, rfl⟩

/-- a command; what it was answered -/
structure Cmd where
  verb : Int
  ka : Option Addr
  km : Nat
  kc : Nat
  flags : Int
  expt : Int
  token : Int
  delta : Int
  da : Option Addr
  dm : Nat
  dc : Nat
  nr : Bool
  lg : Bool
  fa : Option Addr
  fm : Nat
  fc : Nat
  what : List UInt8
def cmdC (c : Cmd) : List Value := [.int .i64 c.verb, .slice c.ka c.km c.kc, .int .u64 c.flags, .int .i64 c.expt, .int .u64 c.token, .int .u64 c.delta, .slice c.da c.dm c.dc, .bool c.nr, .bool c.lg, .slice c.fa c.fm c.fc, strv c.what]
structure Ans where
  kind : Int
  ea : Option Addr
  em : Nat
  ec : Nat
  number : Int
  text : List UInt8
  sa : Option Addr
  sm : Nat
  sc : Nat
def ansC (a : Ans) : List Value := [.int .i64 a.kind, .slice a.ea a.em a.ec, .int .u64 a.number, strv a.text, .slice a.sa a.sm a.sc]

def codeM (kind : Int) (text : List UInt8) : List UInt8 := if kind = 15 then wordM text else []
def whyM (why : List Int) : Int := match why with | [] => -1 | w :: _ => w
def lkS : List (List UInt8 × Int) → List UInt8 → Int
  | [], _ => 0
  | (a, b) :: r, z => if a = z then b else lkS r z
abbrev HD : List UInt8 := [72, 68]
abbrev EX : List UInt8 := [69, 88]
abbrev NF : List UInt8 := [78, 70]
def chL (w : Int) (barred : Bool) (hit miss : Int) : List Int := if w = 0 ∧ barred = true then [] else toldL w 0 hit miss
/-- starts with a D of either kind -/
def decM (l : List UInt8) : Bool := decide (l.take 1 = [68]) || decide (l.take 1 = [100])
def metaL (verb kind : Int) (text : List UInt8) (fl : List Flg) (why : List Int) : List Int :=
  if verb > 24 then [] else
  5 ::
  (if verb = 20 then keyL (whyM why)
   else if verb = 21 then 2 :: (if codeM kind text = HD then [24] else []) ++ (if (argM fl 67).2 = true then [lkS [(HD, 16), (EX, 17), (NF, 18)] (codeM kind text)] else [])
   else if verb = 22 then chL (whyM why) (decide (codeM kind text = EX)) 10 11
   else if verb = 23 then chL (whyM why) (decide (codeM kind text = EX) || decide (kind = 11)) (if decM (argM fl 77).1 = true then 14 else 12) (if decM (argM fl 77).1 = true then 15 else 13)
   else [])
theorem mt108 : mapT Tryd.prog 108 = some (9, .string, 3, .int .i64 0) := by kernel_rfl
def ssE (es : List (List UInt8 × Int)) : List (Value × Value) := es.map fun p => (strv p.1, .int .i64 p.2)
theorem lk_ssE : ∀ (es : List (List UInt8 × Int)) (z : List UInt8), (lk (ssE es) (strv z)).getD (.int .i64 0) = .int .i64 (lkS es z) := by
  intro es
  induction es with
  | nil => intro z; rfl
  | cons p r ih =>
    intro z
    obtain ⟨a, b⟩ := p
    simp only [ssE, List.map_cons, lk, lkS] at ih ⊢
    have : lk.sameK (strv a) (strv z) = decide (a = z) := rfl
    rw [this]
    by_cases h : a = z
    · simp [h]
    · simp only [h, decide_false, if_false]
      exact ih z
theorem meta_fn (b : Nat) (e : TypeId) (s : Int) (l : List Nat) (bd : Brd l) (c : Cmd) (a : Ans) (fl : List Flg) (hf : c.fm = fl.length) (hfb : fl.length ≤ 9223372036854775807) (why : List Int) (aw : Option Addr) (m cw : Nat) (hm : m = why.length) (ht : a.text.length ≤ 9223372036854775807) :
    FnS Tryd.prog 39 [.pointer (some ⟨b, 0, none⟩), .agg (cmdC c).toArray, .agg (ansC a).toArray, .slice aw m cw] (fun h => Rdl h c.fa (flsC fl) ∧ Rdl h aw (icells why)) [pts b e (bdC s l)] (fun v H => v = .tuple #[] ∧ H = [pts b e (bdC s (onesM l (metaL c.verb a.kind a.text fl why)))]) := by
  obtain ⟨verb, ka, km, kc, flags, expt, token, delta, da, dm, dc, nr, lg, fa, fm, fc, what⟩ := c
  obtain ⟨kind, ea, em, ec, number, text, sa, sm, sc⟩ := a
  subst hm
  simp only at hf ht ⊢
  subst hf
  unfold metaL
  refine fn_body Tryd.func39 rfl Tryd.ntmps39 rfl ?_
  intro F hF
  refine g_sr ?_
  refine Lp (oB fun b1 => ?_)
  refine Lp (oB fun b2 => ?_)
  refine g_ne ?_
  refine g_seq ?_
  refine g_sr ?_
  refine Li (Fa T.fld_34_0) ?_
  refine Lp (oL T.sc_3 ?_)
  refine Li Cm ?_
  refine g_ne ?_
  refine g_cond rfl ?_ ?_
  · intro h24
    replace h24 := nrm h24
    rw [if_pos (by omega)]
    refine g_ret ?_
    refine e_then_ret ?_
    refine Rt0 [pts b e (bdC s l)] Tryd.results39 ?_
    exact ⟨rfl, rfl⟩
  · intro h24
    replace h24 := nrm h24
    rw [if_neg (by omega)]


    refine g_skip ?_
    refine e_then ?_
    refine g_sr ?_
    refine Li Mv ?_
    refine Lp (oT T.ap_39 fun b3 => ?_)
    refine Lp (oC T.fn_36 rfl rfl (one_fn b e s l bd [5] (some ⟨b3, 0, none⟩) 1 1 rfl (by simp)) (.cons (.there (.there (.there .here))) .nil) (fun _ _ hin => pts_in (hin.nth 0 rfl)) ?_)
    rintro v H' ⟨rfl, rfl⟩
    try simp only [nap, cap]
    have bd1 := bd.ones [5]
    have hap : ∀ L, onesM l (5 :: L) = onesM (onesM l [5]) L := fun L => onesM_append _ [5] _
    generalize onesM l [5] = l1 at *
    refine g_ne ?_
    refine g_sr ?_
    refine Li As ?_
    refine g_ne ?_
    refine g_seq ?_
    refine g_mid (ι := List UInt8) [22, 23, 24, 26, 27, 28, 25, 29, 30, 31, 8] (fun code => code = codeM kind text) (fun code => [(8, strv code)]) (fun code => [pts b1 34 [.int .i64 verb, .slice ka km kc, .int .u64 flags, .int .i64 expt, .int .u64 token, .int .u64 delta, .slice da dm dc, .bool nr, .bool lg, .slice fa fl.length fc, strv what], pts b2 38 [.int .i64 kind, .slice ea em ec, .int .u64 number, strv text, .slice sa sm sc], pts b e (bdC s l1)]) ?_ ?_
    · refine g_sr ?_
      refine Li (Fa T.fld_38_0) ?_
      refine Lp (oL T.sc_3 ?_)
      refine Li Cm ?_
      refine g_ne ?_
      refine g_cond rfl ?_ ?_
      · intro h15
        replace h15 := nrm h15
        refine g_region ?_
        refine Li (Fa T.fld_38_3) ?_
        refine Lp (oL T.sc_9 ?_)
        refine Lp (oC T.fn_61 rfl rfl (cut61_fn text ht) .nil (fun _ _ _ => trivial) ?_)
        rintro v H' ⟨⟨r, f, rfl⟩, rfl⟩
        try simp only [nap, cap]
        refine Li Mv ?_
        refine Li Ex ?_
        refine Li Ex ?_
        refine Li Ex ?_
        refine Li As ?_
        refine g_nil ?_
        refine Me (wordM text) ((by rw [codeM, if_pos h15]))
      · intro h15
        replace h15 := nrm h15
        refine g_skip ?_
        refine Me ([]) ((by rw [codeM, if_neg h15]))
    rintro code hcode
    refine g_sr ?_
    refine Li As ?_
    refine g_ne ?_
    refine g_seq ?_
    refine g_mid (ι := Int) [32, 33, 34, 35, 36, 37, 9] (fun w => w = whyM why) (fun w => [(9, .int .i64 w)]) (fun w => [pts b1 34 [.int .i64 verb, .slice ka km kc, .int .u64 flags, .int .i64 expt, .int .u64 token, .int .u64 delta, .slice da dm dc, .bool nr, .bool lg, .slice fa fl.length fc, strv what], pts b2 38 [.int .i64 kind, .slice ea em ec, .int .u64 number, strv text, .slice sa sm sc], pts b e (bdC s l1)]) ?_ ?_
    · refine g_sr ?_
      refine Li Mv ?_
      refine Li (Ln T.sl_39) ?_
      refine Li Cm ?_
      refine g_ne ?_
      refine g_cond rfl ?_ ?_
      · intro hw
        replace hw := nrm hw
        obtain ⟨w, r, rfl⟩ : ∃ w r, why = w :: r := List.exists_cons_of_length_pos (by omega)
        have k1 : (icells (w :: r))[0]? = some (.int .i64 w) := rfl
        have hF2 := hF.2
        have a0 : aw.isSome = true := hF2.some (by simp [icells])
        refine g_region ?_
        refine Li Mv ?_
        refine Li (Ix (j := 0) T.sl_39) ?_
        refine Lp (oL T.sc_3 ?_)
        refine Li As ?_
        refine g_nil ?_
        refine Me (w) (rfl)
      · intro hw
        replace hw := nrm hw
        have : why = [] := List.eq_nil_of_length_eq_zero (by omega)
        subst this
        refine g_skip ?_
        refine Me (-1) (rfl)
    rintro w hw
    rw [← hcode, ← hw]
    refine g_sr ?_
    refine Li (Fa T.fld_34_0) ?_
    refine Lp (oL T.sc_3 ?_)
    refine g_ne ?_
    refine g_block ?_
    refine g_sr ?_
    refine Li Cm ?_
    refine Li As ?_
    refine g_ne ?_
    refine g_cond rfl ?_ ?_
    · intro h20
      replace h20 := nrm h20
      rw [if_pos h20]
      refine g_region ?_
      refine Li Mv ?_
      refine Li Mv ?_
      refine Lp (oC T.fn_37 rfl rfl (key_fn b e s l1 bd1 w) (.cons (.there (.there .here)) .nil) (fun _ _ _ => trivial) ?_)
      rintro v H' ⟨rfl, rfl⟩
      try simp only [nap, cap]
      refine g_nil ?_
      refine e_block ?_
      refine Rn0 [pts b e (bdC s (onesM l1 (keyL w)))] Tryd.results39 ?_
      exact ⟨rfl, by rw [hap]⟩
    · intro h20
      replace h20 := nrm h20
      rw [if_neg h20]
      refine g_sr ?_
      refine Li Cm ?_
      refine Li As ?_
      refine g_ne ?_
      refine g_cond rfl ?_ ?_
      · intro h21
        replace h21 := nrm h21
        rw [if_pos h21]
        refine g_sr ?_
        refine Li Mv ?_
        refine Lp (oT T.ap_39 fun b4 => ?_)
        refine Lp (oC T.fn_36 rfl rfl (one_fn b e s l1 bd1 [2] (some ⟨b4, 0, none⟩) 1 1 rfl (by simp)) (.cons (.there (.there (.there .here))) .nil) (fun _ _ hin => pts_in (hin.nth 0 rfl)) ?_)
        rintro v H' ⟨rfl, rfl⟩
        try simp only [nap, cap]
        have bd2 := bd1.ones [2]
        refine Hh (H' := [pts b1 34 [.int .i64 verb, .slice ka km kc, .int .u64 flags, .int .i64 expt, .int .u64 token, .int .u64 delta, .slice da dm dc, .bool nr, .bool lg, .slice fa fl.length fc, strv what], pts b2 38 [.int .i64 kind, .slice ea em ec, .int .u64 number, strv text, .slice sa sm sc], pts b e (bdC s (onesM l1 [2]))]) ?_
        refine g_ne ?_
        refine g_seq ?_
        refine g_mid (ι := Unit) [50, 51, 52, 53, 54] (fun u => True) (fun u => []) (fun u => [pts b1 34 [.int .i64 verb, .slice ka km kc, .int .u64 flags, .int .i64 expt, .int .u64 token, .int .u64 delta, .slice da dm dc, .bool nr, .bool lg, .slice fa fl.length fc, strv what], pts b2 38 [.int .i64 kind, .slice ea em ec, .int .u64 number, strv text, .slice sa sm sc], pts b e (bdC s (onesM l1 (2 :: (if code = HD then [24] else []))))]) ?_ ?_
        · refine g_sr ?_
          refine Li Mv ?_
          refine Li Sq ?_
          refine g_ne ?_
          refine g_cond rfl ?_ ?_
          · intro hh
            replace hh := nrm hh
            refine g_region ?_
            refine Li Mv ?_
            refine Lp (oT T.ap_39 fun b5 => ?_)
            refine Lp (oC T.fn_36 rfl rfl (one_fn b e s (onesM l1 [2]) bd2 [24] (some ⟨b5, 0, none⟩) 1 1 rfl (by simp)) (.cons (.there (.there (.there .here))) .nil) (fun _ _ hin => pts_in (hin.nth 0 rfl)) ?_)
            rintro v H' ⟨rfl, rfl⟩
            try simp only [nap, cap]
            rw [if_pos hh]
            refine g_nil ?_
            refine Me (()) (trivial)
          · intro hh
            replace hh := nrm hh
            refine g_skip ?_
            rw [if_neg hh]
            refine Me (()) (trivial)
        rintro u hI
        obtain ⟨L, hL⟩ : ∃ L : List Int, L = 2 :: (if code = HD then [24] else []) := ⟨_, rfl⟩
        rw [← hL]
        have hL2 : ∀ B, onesM l1 (2 :: ((if code = HD then [24] else []) ++ B)) = onesM (onesM l1 L) B := fun B => by rw [← onesM_append, hL]; rfl
        have bd3 := bd1.ones L
        refine g_sr ?_
        refine Li (Fa T.fld_34_9) ?_
        refine Lp (oL T.sc_32 ?_)
        refine Lp (oC T.fn_62 rfl rfl (arg_fn fl fa fl.length fc rfl hfb 67) .nil (fun _ le _ => hF.1.mono le) ?_)
        rintro v H' ⟨rfl, rfl⟩
        try simp only [nap, cap]
        refine Li Mv ?_
        refine Li Ex ?_
        refine Li Ex ?_
        refine Li As ?_
        refine Li As ?_
        refine g_ne ?_
        refine g_sr ?_
        refine Li Mv ?_
        refine g_ne ?_
        refine g_cond rfl ?_ ?_
        · intro hc
          replace hc := nrm hc
          rw [if_pos hc]
          refine g_region ?_
          refine Li Mv ?_
          refine Lp (oMm .string fun b6 => ?_)
          refine Lp (oMi mt108 ?_)
          refine Lp (oMi mt108 ?_)
          refine Lp (oMi mt108 ?_)
          refine Li Mv ?_
          refine Li Mv ?_
          refine Lp (oMl mt108 ?_)
          have e5 := lk_ssE [(HD, 16), (EX, 17), (NF, 18)] code
          have e6 : (lk ([(.string ⟨#[72, 68]⟩, .int .i64 16), (.string ⟨#[69, 88]⟩, .int .i64 17), (.string ⟨#[78, 70]⟩, .int .i64 18)] : List (Value × Value)) (strv code)).getD (.int .i64 0) = .int .i64 (lkS [(HD, 16), (EX, 17), (NF, 18)] code) := e5
          simp only [List.nil_append, List.cons_append] at e6 ⊢
          rw [e6]
          refine Lp (oT T.ap_39 fun b7 => ?_)
          refine Lp (oC T.fn_36 rfl rfl (one_fn b e s (onesM l1 L) bd3 [lkS [(HD, 16), (EX, 17), (NF, 18)] code] (some ⟨b7, 0, none⟩) 1 1 rfl (by simp)) (.cons (.there (.there (.there (.there .here)))) .nil) (fun _ _ hin => pts_in (hin.nth 0 rfl)) ?_)
          rintro v H' ⟨rfl, rfl⟩
          try simp only [nap, cap]
          refine g_nil ?_
          refine e_block ?_
          refine Rn0 [pts b e (bdC s (onesM (onesM l1 L) [lkS [(HD, 16), (EX, 17), (NF, 18)] code]))] Tryd.results39 ?_
          exact ⟨rfl, by rw [hap, hL2]⟩
        · intro hc
          replace hc := nrm hc
          refine g_skip ?_
          refine e_block ?_
          refine Rn0 [pts b e (bdC s (onesM l1 L))] Tryd.results39 ?_
          exact ⟨rfl, by rw [hap, hL2, hc]; rfl⟩
      · intro h21
        replace h21 := nrm h21
        rw [if_neg h21]
        refine g_sr ?_
        refine Li Cm ?_
        refine Li As ?_
        refine g_ne ?_
        refine g_cond rfl ?_ ?_
        · intro h22
          replace h22 := nrm h22
          rw [if_pos h22]
          refine g_region ?_
          refine Li Mv ?_
          refine Li Mv ?_
          refine Li Mv ?_
          refine Li Sq ?_
          refine Lp (oC T.fn_63 rfl rfl (change_fn b e s l1 bd1 w 10 11 (decide (code = EX))) (.cons (.there (.there .here)) .nil) (fun _ _ _ => trivial) ?_)
          rintro v H' ⟨rfl, rfl⟩
          try simp only [nap, cap]
          refine g_nil ?_
          refine e_block ?_
          refine Rn0 [pts b e (bdC s (onesM l1 (chL w (decide (code = EX)) 10 11)))] Tryd.results39 ?_
          exact ⟨rfl, by rw [hap]⟩
        · intro h22
          replace h22 := nrm h22
          rw [if_neg h22]
          refine g_sr ?_
          refine Li Cm ?_
          refine Li As ?_
          refine g_ne ?_
          refine g_cond rfl ?_ ?_
          · intro h23
            replace h23 := nrm h23
            rw [if_pos h23]
            refine g_sr ?_
            refine Li As ?_
            refine Li As ?_
            refine g_ne ?_
            refine g_seq ?_
            refine g_mid (ι := Int × Int) [79, 80, 81, 78, 82, 83, 14, 15, 84, 85, 86, 87, 88, 89, 12, 13] (fun q => q = (if decM (argM fl 77).1 = true then 14 else 12, if decM (argM fl 77).1 = true then 15 else 13)) (fun q => [(12, .int .i64 q.1), (13, .int .i64 q.2)]) (fun q => [pts b1 34 [.int .i64 verb, .slice ka km kc, .int .u64 flags, .int .i64 expt, .int .u64 token, .int .u64 delta, .slice da dm dc, .bool nr, .bool lg, .slice fa fl.length fc, strv what], pts b2 38 [.int .i64 kind, .slice ea em ec, .int .u64 number, strv text, .slice sa sm sc], pts b e (bdC s l1)]) ?_ ?_
            · refine g_sr ?_
              refine Li (Fa T.fld_34_9) ?_
              refine Lp (oL T.sc_32 ?_)
              refine Lp (oC T.fn_62 rfl rfl (arg_fn fl fa fl.length fc rfl hfb 77) .nil (fun _ le _ => hF.1.mono le) ?_)
              rintro v H' ⟨rfl, rfl⟩
              try simp only [nap, cap]
              generalize (argM fl 77).1 = ma
              refine Li Mv ?_
              refine Li Ex ?_
              refine Li Ex ?_
              refine Li As ?_
              refine Li As ?_
              refine g_ne ?_
              refine g_seq ?_
              refine g_mid (ι := Unit) [84, 85, 86, 87, 88, 89] (fun u => True) (fun u => [(89, .bool (decide (ma.take [(68 : UInt8)].length = [68]) || decide (ma.take [(100 : UInt8)].length = [100])))]) (fun u => [pts b1 34 [.int .i64 verb, .slice ka km kc, .int .u64 flags, .int .i64 expt, .int .u64 token, .int .u64 delta, .slice da dm dc, .bool nr, .bool lg, .slice fa fl.length fc, strv what], pts b2 38 [.int .i64 kind, .slice ea em ec, .int .u64 number, strv text, .slice sa sm sc], pts b e (bdC s l1)]) ?_ ?_
              · refine g_region ?_
                refine Li Mv ?_
                refine Lp (oC T.fn_64 rfl rfl (hasPrefix_fn' ma _ (by simp)) .nil (fun _ _ _ => trivial) ?_)
                rintro v H' ⟨rfl, rfl⟩
                try simp only [nap, cap]
                refine Li Mv ?_
                refine g_split (t := 86) rfl ?_ ?_
                · intro hb0
                  replace hb0 := nrm hb0
                  refine Lx ?_
                  refine Lx ?_
                  refine Li Pt ?_
                  refine g_nil ?_
                  refine Me (()) (trivial)
                · intro hb0
                  replace hb0 := nrm hb0
                  refine Li Mv ?_
                  refine Lp (oC T.fn_64 rfl rfl (hasPrefix_fn' ma _ (by simp)) .nil (fun _ _ _ => trivial) ?_)
                  rintro v H' ⟨rfl, rfl⟩
                  try simp only [nap, cap]
                  refine Li Pf ?_
                  refine g_nil ?_
                  refine Me (()) (trivial)
              rintro u hI
              refine g_cond rfl ?_ ?_
              · intro hd
                replace hd := nrm hd
                have hd : decM ma = true := by simpa [decM] using hd
                refine g_region ?_
                refine Li As ?_
                refine Li As ?_
                refine g_nil ?_
                refine Me ((14, 15)) ((by rw [if_pos hd, if_pos hd]))
              · intro hd
                replace hd := nrm hd
                have hd : ¬ decM ma = true := by simpa [decM] using hd
                refine g_skip ?_
                refine Me ((12, 13)) ((by rw [if_neg hd, if_neg hd]))
            rintro q hq
            obtain ⟨q1, q2⟩ := q
            simp only [Prod.mk.injEq] at hq
            rw [← hq.1, ← hq.2]
            refine g_region ?_
            refine Li Mv ?_
            refine Li Mv ?_
            refine Li Mv ?_
            refine Li Sq ?_
            refine Li Mv ?_
            refine g_split (t := 94) rfl ?_ ?_
            · intro he
              replace he := nrm he
              have e7 : (decide (code = EX) || decide (kind = 11)) = true := by simp [he, EX]
              generalize (decide (code = EX) || decide (kind = 11)) = bb at *
              refine Lx ?_
              refine Lx ?_
              refine Lx ?_
              refine Li Pt ?_
              refine Li Mv ?_
              refine Li Mv ?_
              refine g_slot (t := 98) (v' := .bool bb) rfl (by rw [e7]) ?_
              refine Lp (oC T.fn_63 rfl rfl (change_fn b e s l1 bd1 w q1 q2 bb) (.cons (.there (.there .here)) .nil) (fun _ _ _ => trivial) ?_)
              rintro v H' ⟨rfl, rfl⟩
              try simp only [nap, cap]
              refine g_nil ?_
              refine e_block ?_
              refine Rn0 [pts b e (bdC s (onesM l1 (chL w bb q1 q2)))] Tryd.results39 ?_
              exact ⟨rfl, by rw [hap]⟩
            · intro he
              replace he := nrm he
              have e7 : (decide (code = EX) || decide (kind = 11)) = decide (kind = 11) := by rw [decide_eq_false he]; rfl
              rw [e7]
              refine Li (Fa T.fld_38_0) ?_
              refine Lp (oL T.sc_3 ?_)
              refine Li Cm ?_
              refine Li Pf ?_
              refine Li Mv ?_
              refine Li Mv ?_
              refine Lp (oC T.fn_63 rfl rfl (change_fn b e s l1 bd1 w q1 q2 (decide (kind = 11))) (.cons (.there (.there .here)) .nil) (fun _ _ _ => trivial) ?_)
              rintro v H' ⟨rfl, rfl⟩
              try simp only [nap, cap]
              refine g_nil ?_
              refine e_block ?_
              refine Rn0 [pts b e (bdC s (onesM l1 (chL w (decide (kind = 11)) q1 q2)))] Tryd.results39 ?_
              exact ⟨rfl, by rw [hap]⟩
          · intro h23
            replace h23 := nrm h23
            refine g_skip ?_
            refine e_block ?_
            refine Rn0 [pts b e (bdC s l1)] Tryd.results39 ?_
            exact ⟨rfl, by rw [hap, if_neg h23]; rfl⟩
end Go.Proofs.YtdmepoiijgejhaaDoor

