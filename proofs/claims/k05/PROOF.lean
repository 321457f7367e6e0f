import PyProof.Rows.All
import Wide.All
import OpenK.AllK
import Wide.FinOn
import HandS.ForMost
import HandS.Exc
import HandS.ExcInit
import HandS.WordsExc
import HandS.ClsMeth
import HandS.Wide
import PySem.Challenge.RW_tierpile_k05_whole_blocks_within
import HandS.ExcCtx
import HandS.HotCalls
import HandS.ExcInitHot
import HandS.Walk
import HandS.SortKw
import KE.DatumOrd
import HandS.Codes
import KE.GoesMore
import KE.GoesEnum
import HandS.ExcIs
import HandS.ExcField
import HandS.Lambda
import HandS.Head0
import HandS.Head1
import HandS.Head2
import HandS.HeadEnd
import HandS.HeadHook1
import HandS.HeadHook2
import HandS.HeadHook3
import HandS.HeadHook4
import HandS.HeadWalk
import HandS.HeadNt
set_option Elab.async false
set_option linter.all false
/-! P1: the lexer's, the layout's and the law's plain mirrors; whatever is laid out passes the law's look. -/
namespace TP
open PySem L2
abbrev tl (x : Str) : List Nat := TL.tl x

/-! ### signs -/
def LT : List Nat := [97, 98, 99, 100, 101, 102, 103, 104, 105, 106, 107, 108, 109, 110, 111, 112, 113, 114, 115, 116, 117, 118, 119, 120, 121, 122]
def FG : List Nat := [48, 49, 50, 51, 52, 53, 54, 55, 56, 57]
theorem mem_LT {c : Nat} : c ∈ LT ↔ 97 ≤ c ∧ c ≤ 122 := by
  unfold LT
  simp only [List.mem_cons, List.not_mem_nil, or_false]
  omega
theorem mem_FG {c : Nat} : c ∈ FG ↔ 48 ≤ c ∧ c ≤ 57 := by
  unfold FG
  simp only [List.mem_cons, List.not_mem_nil, or_false]
  omega
def keysS : List Str := ["let", "if", "then", "else", "case", "of", "div", "mod", "and", "or"]
def signsS : List Str := ["==", "->", "[]", "(", ")", "+", "-", "*", "<", "=", ":"]
def signsL : List (List Nat) := [[61, 61], [45, 62], [91, 93], [40], [41], [43], [45], [42], [60], [61], [58]]
theorem signsS_tl : signsS.map tl = signsL := by decide +kernel

/-! ### a mark -/
structure Mrk where
  kind : Str
  word : Str
  line : Int
  col : Int
  deriving DecidableEq
def Mrk.v (m : Mrk) : List V := [.str m.kind, .str m.word, .int m.line, .int m.col]
abbrev mkS (l : List Nat) : Str := ⟨l.toArray⟩
theorem tl_mkS (l : List Nat) : tl (mkS l) = l := rfl

/-! ### the lexer -/
def runs (S cs : List Nat) : List Nat := cs.takeWhile fun c => decide (c ∈ S)
/-- the kind and the word of the mark that begins here -/
def tok (cs : List Nat) : Option (Str × List Nat) :=
  if runs LT cs ≠ [] then
    if (runs LT cs).length > 8 then none else some ((if mkS (runs LT cs) ∈ keysS then ("key" : Str) else ("name" : Str)), runs LT cs)
  else if runs FG cs ≠ [] then
    if (runs FG cs).length > 9 ∨ ((runs FG cs).length > 1 ∧ (runs FG cs).head? = some 48) then none else some (("number" : Str), runs FG cs)
  else (signsL.find? fun s => decide (cs.take s.length = s)).map fun s => (("sign" : Str), s)
def lexRow (line : Int) : Nat → Nat → List Nat → Option (List Mrk)
  | _, _, [] => some []
  | k + 1, at_, _ :: cs => lexRow line k (at_ + 1) cs
  | 0, at_, c :: cs => if c = 35 then some [] else if c = 32 then lexRow line 0 (at_ + 1) cs else
    match tok (c :: cs) with
    | none => none
    | some q => (lexRow line (q.2.length - 1) (at_ + 1) cs).map fun r => ⟨q.1, mkS q.2, line, (at_ : Nat)⟩ :: r
def lexRows : Nat → List (List Nat) → Option (List Mrk)
  | _, [] => some []
  | i, r :: rs => (lexRow (i : Nat) 0 0 r).bind fun a => (lexRows (i + 1) rs).map fun b => a ++ b
def rowsT (t : List Nat) : List (List Nat) := TL.spl [10] 0 [] t
def marksF (t : List Nat) : Option (List Mrk) := lexRows 0 (rowsT t)

theorem lexRow_nil (line : Int) (k a : Nat) : lexRow line k a [] = some [] := by cases k <;> rfl
theorem lexRow_skip (line : Int) : ∀ (k a : Nat) (cs : List Nat), lexRow line k a cs = lexRow line 0 (a + k) (cs.drop k)
  | 0, a, cs => rfl
  | k + 1, a, [] => by rw [lexRow_nil, List.drop_nil, lexRow_nil]
  | k + 1, a, c :: cs => by
    show lexRow line k (a + 1) cs = _
    rw [lexRow_skip line k (a + 1) cs, List.drop_succ_cons]
    congr 1
    omega
theorem runs_pos {S cs : List Nat} (h : runs S cs ≠ []) : 1 ≤ (runs S cs).length := by
  cases e : runs S cs with
  | nil => exact absurd e h
  | cons a r => simp
theorem tok_pos {cs : List Nat} {q : Str × List Nat} (h : tok cs = some q) : 1 ≤ q.2.length := by
  unfold tok at h
  split at h
  · rename_i h1
    split at h
    · cases h
    · cases h
      exact runs_pos h1
  · split at h
    · rename_i h1
      split at h
      · cases h
      · cases h
        exact runs_pos h1
    · obtain ⟨s, hs, rfl⟩ := Option.map_eq_some_iff.mp h
      have hm := List.mem_of_find?_eq_some hs
      simp only [signsL, List.mem_cons, List.not_mem_nil, or_false] at hm
      rcases hm with rfl | rfl | rfl | rfl | rfl | rfl | rfl | rfl | rfl | rfl | rfl <;> decide
/-- one mark, as the reader's loop goes -/
theorem lexRow_tok {line : Int} {a c : Nat} {cs : List Nat} {q : Str × List Nat} (h1 : c ≠ 35) (h2 : c ≠ 32) (h : tok (c :: cs) = some q) :
    lexRow line 0 a (c :: cs) = (lexRow line 0 (a + q.2.length) ((c :: cs).drop q.2.length)).map fun r => ⟨q.1, mkS q.2, line, (a : Nat)⟩ :: r := by
  have hp := tok_pos h
  obtain ⟨k, w⟩ := q
  show (if c = 35 then _ else if c = 32 then _ else _) = _
  rw [if_neg h1, if_neg h2, h]
  show (lexRow line (w.length - 1) (a + 1) cs).map _ = _
  rw [lexRow_skip]
  have e : a + 1 + (w.length - 1) = a + w.length := by
    have hp : 1 ≤ w.length := hp
    omega
  have e2 : (c :: cs).drop w.length = cs.drop (w.length - 1) := by
    have hp : 1 ≤ w.length := hp
    cases hw : w.length with
    | zero => omega
    | succ n => rw [List.drop_succ_cons, Nat.add_sub_cancel]
  rw [e, e2]
theorem lexRow_bad {line : Int} {a c : Nat} {cs : List Nat} (h1 : c ≠ 35) (h2 : c ≠ 32) (h : tok (c :: cs) = none) : lexRow line 0 a (c :: cs) = none := by
  show (if c = 35 then _ else if c = 32 then _ else _) = _
  rw [if_neg h1, if_neg h2, h]
theorem lexRow_blank {line : Int} {a : Nat} {cs : List Nat} : lexRow line 0 a (32 :: cs) = lexRow line 0 (a + 1) cs := rfl
theorem lexRow_remark {line : Int} {a : Nat} {cs : List Nat} : lexRow line 0 a (35 :: cs) = some [] := rfl

/-- what the lexer tells of each mark -/
structure Mrk.Ok (m : Mrk) : Prop where
  kind : m.kind ≠ "lay"
  col : 0 ≤ m.col
  line : 0 ≤ m.line
theorem tok_kind {cs : List Nat} {q : Str × List Nat} (h : tok cs = some q) : q.1 ≠ "lay" := by
  unfold tok at h
  split at h
  · split at h
    · cases h
    · cases h
      show (if _ then ("key" : Str) else ("name" : Str)) ≠ ("lay" : Str)
      split <;> decide +kernel
  · split at h
    · split at h
      · cases h
      · cases h
        show ("number" : Str) ≠ "lay"
        decide +kernel
    · obtain ⟨s, hs, rfl⟩ := Option.map_eq_some_iff.mp h
      show ("sign" : Str) ≠ "lay"
      decide +kernel
theorem lexRow_ok {line : Int} (hl : 0 ≤ line) : ∀ (cs : List Nat) (k a : Nat) (ms : List Mrk), lexRow line k a cs = some ms → ∀ m ∈ ms, m.Ok := by
  intro cs
  induction cs with
  | nil =>
    intro k a ms h m hm
    rw [lexRow_nil] at h
    cases h
    cases hm
  | cons c cs ih =>
    intro k a ms h m hm
    cases k with
    | succ k => exact ih k (a + 1) ms h m hm
    | zero =>
      have h : (if c = 35 then some [] else if c = 32 then lexRow line 0 (a + 1) cs else
        match tok (c :: cs) with
        | none => none
        | some q => (lexRow line (q.2.length - 1) (a + 1) cs).map fun r => ⟨q.1, mkS q.2, line, (a : Nat)⟩ :: r) = some ms := h
      split at h
      · cases h
        cases hm
      · split at h
        · exact ih 0 (a + 1) ms h m hm
        · split at h
          · cases h
          · rename_i q hq
            obtain ⟨r, hr, rfl⟩ := Option.map_eq_some_iff.mp h
            rcases List.mem_cons.mp hm with rfl | hm
            · exact ⟨tok_kind hq, by show (0 : Int) ≤ ((a : Nat) : Int); omega, hl⟩
            · exact ih _ _ r hr m hm
theorem lexRows_ok : ∀ (rs : List (List Nat)) (i : Nat) (ms : List Mrk), lexRows i rs = some ms → ∀ m ∈ ms, m.Ok := by
  intro rs
  induction rs with
  | nil =>
    intro i ms h m hm
    cases h
    cases hm
  | cons r rs ih =>
    intro i ms h m hm
    obtain ⟨a, ha, h2⟩ := Option.bind_eq_some_iff.mp h
    obtain ⟨b, hb, rfl⟩ := Option.map_eq_some_iff.mp h2
    rcases List.mem_append.mp hm with hm | hm
    · exact lexRow_ok (by omega) r 0 0 a ha m hm
    · exact ih _ b hb m hm
theorem marksF_ok {t : List Nat} {ms : List Mrk} (h : marksF t = some ms) : ∀ m ∈ ms, m.Ok := lexRows_ok _ _ _ h

/-! ### the layout: the stack top first, what was told latest first -/
structure Lay where
  st : List Int
  td : List Mrk
def lay (s : Str) (m : Mrk) : Mrk := ⟨"lay", s, m.line, m.col⟩
def opener (a : Mrk) : Bool := decide (a.kind = "key") && (decide (a.word = "let") || decide (a.word = "of"))
def blockF (m : Mrk) (s : Lay) : Option Lay :=
  if s.st.any (fun x => decide (m.col ≤ x)) = true then none else if s.st.length = 24 then none else some ⟨m.col :: s.st, lay "{" m :: s.td⟩
def folF (m : Mrk) : List Int → List Mrk → Option Lay
  | [], _ => none
  | c :: r, td => if c > m.col then (if r = [] then none else folF m r (lay "}" m :: td)) else if c = m.col then some ⟨c :: r, lay ";" m :: td⟩ else some ⟨c :: r, td⟩
def popF (m : Mrk) : List Int → List Mrk → Lay
  | [], td => ⟨[], td⟩
  | c :: r, td => if c = -1 then ⟨r, td⟩ else popF m r (lay "}" m :: td)
def brkF (m : Mrk) (s : Lay) : Option Lay :=
  if m.word = "(" then (if s.st.length = 24 then none else some ⟨-1 :: s.st, s.td⟩) else if m.word = ")" ∧ (-1) ∈ s.st then some (popF m s.st s.td) else some s
def enterF (m : Mrk) (ah : Option Mrk) (s : Lay) : Option Lay := match ah with
  | none => blockF m s
  | some a => if opener a = true then blockF m s else if a.line < m.line then folF m s.st s.td else some s
def putF (m : Mrk) (ah : Option Mrk) (s : Lay) : Option Lay :=
  (enterF m ah s).bind fun s1 => (if m.kind = "sign" then brkF m s1 else some s1).map fun s2 => ⟨s2.st, m :: s2.td⟩
def runF : List Mrk → Option Mrk → Lay → Option Lay
  | [], _, s => some s
  | m :: r, ah, s => (putF m ah s).bind fun s1 => runF r (some m) s1
def closeF (cnt : Int) : List Int → List Mrk → List Mrk
  | [], td => td
  | c :: r, td => closeF cnt r (if c = -1 then td else ⟨"lay", "}", cnt, 0⟩ :: td)
def cntT (t : List Nat) : Int := ((t.count 10 : Nat) : Int) + 1
def laidF (t : List Nat) : Option (List Mrk) :=
  (marksF t).bind fun ms => (runF ms none ⟨[], []⟩).map fun s => (closeF (cntT t) s.st s.td).reverse

/-! ### the law's look -/
def chk2 : List Mrk → Int × Int → Bool
  | [], _ => true
  | m :: r, b => if m.kind = "lay" ∧ (m.line, m.col) ≠ b then false else chk2 r (m.line, m.col)
def run3 : List Mrk → List Int → Option (List Int)
  | [], cols => some cols
  | m :: r, cols =>
    if m.kind = "lay" then
      if m.word = "{" then (if cols.any (fun x => decide (m.col ≤ x)) = true then none else run3 r (m.col :: cols))
      else match cols with
        | [] => none
        | c :: cs => if m.word = "}" then run3 r cs else if c = m.col then run3 r (c :: cs) else none
    else run3 r cols
theorem run3_app : ∀ (a b : List Mrk) (cols : List Int), run3 (a ++ b) cols = (run3 a cols).bind (run3 b) := by
  intro a
  induction a with
  | nil => intro b cols; rfl
  | cons m r ih =>
    intro b cols
    show run3 (m :: (r ++ b)) cols = _
    unfold run3
    split
    · split
      · split
        · rfl
        · exact ih _ _
      · cases cols with
        | nil => rfl
        | cons c cs =>
          dsimp only
          split
          · exact ih _ _
          · split
            · exact ih _ _
            · rfl
    · exact ih _ _
abbrev blk (st : List Int) : List Int := st.filter fun c => decide (c ≠ -1)
/-- what the law's three looks find so far -/
structure Good (ms : List Mrk) (s : Lay) : Prop where
  flt : s.td.reverse.filter (fun m => decide (m.kind ≠ ("lay" : Str))) = ms
  cols : run3 s.td.reverse [] = some (blk s.st)
theorem lay_kind (s : Str) (m : Mrk) : (lay s m).kind = "lay" := rfl
theorem blk_cons {c : Int} (h : c ≠ -1) (r : List Int) : blk (c :: r) = c :: blk r := by
  unfold blk
  rw [List.filter_cons, if_pos (decide_eq_true h)]
theorem blk_brk (r : List Int) : blk (-1 :: r) = blk r := by
  unfold blk
  rw [List.filter_cons, if_neg (by decide)]
theorem Good.push {ms : List Mrk} {s : Lay} {m x : Mrk} {st : List Int} (g : Good ms s) (hx : x.kind = "lay") (h : run3 [x] (blk s.st) = some (blk st)) : Good ms ⟨st, x :: s.td⟩ := by
  refine ⟨?_, ?_⟩
  · show (x :: s.td).reverse.filter _ = ms
    rw [List.reverse_cons, List.filter_append, g.flt, List.filter_cons, if_neg (by rw [hx]; decide), List.filter_nil, List.append_nil]
  · show run3 (x :: s.td).reverse [] = _
    rw [List.reverse_cons, run3_app, g.cols]
    exact h
theorem Good.mark {ms : List Mrk} {s : Lay} {m : Mrk} (g : Good ms s) (hx : m.kind ≠ "lay") : Good (ms ++ [m]) ⟨s.st, m :: s.td⟩ := by
  refine ⟨?_, ?_⟩
  · show (m :: s.td).reverse.filter _ = _
    rw [List.reverse_cons, List.filter_append, g.flt, List.filter_cons, if_pos (decide_eq_true hx), List.filter_nil]
  · show run3 (m :: s.td).reverse [] = _
    rw [List.reverse_cons, run3_app, g.cols]
    show run3 [m] (blk s.st) = _
    unfold run3
    rw [if_neg hx]
    rfl
theorem close3 {m : Mrk} {s : Str} {c : Int} {r : List Int} (hs : s = "}") (h : c ≠ -1) : run3 [lay s m] (blk (c :: r)) = some (blk r) := by
  subst hs
  rw [blk_cons h]
  unfold run3
  rw [if_pos (lay_kind _ _), if_neg (show ¬ (lay "}" m).word = "{" by show ¬ (("}" : Str) = "{"); decide +kernel)]
  dsimp only
  rw [if_pos (show (lay "}" m).word = "}" from rfl)]
  rfl
theorem Good.fol {ms : List Mrk} {m : Mrk} (hc : 0 ≤ m.col) : ∀ (st : List Int) (td : List Mrk) (s' : Lay), Good ms ⟨st, td⟩ → folF m st td = some s' → Good ms s' := by
  intro st
  induction st with
  | nil => intro td s' g h; cases h
  | cons c r ih =>
    intro td s' g h
    unfold folF at h
    split at h
    · rename_i h1
      split at h
      · cases h
      · exact ih _ _ (g.push (m := m) (lay_kind _ _) (close3 rfl (by omega))) h
    · split at h
      · rename_i h2
        cases h
        refine g.push (m := m) (lay_kind _ _) ?_
        show run3 [lay ";" m] (blk (c :: r)) = some (blk (c :: r))
        rw [blk_cons (by omega)]
        unfold run3
        rw [if_pos (lay_kind _ _), if_neg (show ¬ (lay ";" m).word = "{" by show ¬ ((";" : Str) = "{"); decide +kernel)]
        dsimp only
        rw [if_neg (show ¬ (lay ";" m).word = "}" by show ¬ ((";" : Str) = "}"); decide +kernel), if_pos (show c = (lay ";" m).col from h2)]
        rfl
      · cases h
        exact g
theorem Good.pop {ms : List Mrk} {m : Mrk} : ∀ (st : List Int) (td : List Mrk), (-1) ∈ st → Good ms ⟨st, td⟩ → Good ms (popF m st td) := by
  intro st
  induction st with
  | nil => intro td h g; cases h
  | cons c r ih =>
    intro td h g
    unfold popF
    split
    · rename_i h1
      refine ⟨g.flt, ?_⟩
      have q := g.cols
      show run3 td.reverse [] = some (blk r)
      rw [q]
      show some (blk (c :: r)) = _
      rw [h1, blk_brk]
    · rename_i h1
      refine ih _ ?_ (g.push (m := m) (lay_kind _ _) (close3 rfl h1))
      rcases List.mem_cons.mp h with e | e
      · exact absurd e.symm h1
      · exact e
theorem Good.enter {ms : List Mrk} {m : Mrk} {ah : Option Mrk} {s s' : Lay} (hc : 0 ≤ m.col) (g : Good ms s) (h : enterF m ah s = some s') : Good ms s' := by
  have hb : ∀ {s'}, blockF m s = some s' → Good ms s' := fun {s'} h => by
    unfold blockF at h
    split at h
    · cases h
    · rename_i h1
      split at h
      · cases h
      · cases h
        refine g.push (m := m) (lay_kind _ _) ?_
        unfold run3
        rw [if_pos (lay_kind _ _), if_pos (show (lay "{" m).word = "{" from rfl)]
        have e : (blk s.st).any (fun x => decide ((lay "{" m).col ≤ x)) = false := by
          rw [Bool.eq_false_iff]
          intro z
          obtain ⟨x, hx, hx2⟩ := List.any_eq_true.mp z
          exact h1 (List.any_eq_true.mpr ⟨x, (List.mem_filter.mp hx).1, hx2⟩)
        rw [if_neg (by rw [e]; exact Bool.false_ne_true), blk_cons (show m.col ≠ -1 by omega)]
        rfl
  unfold enterF at h
  split at h
  · exact hb h
  · split at h
    · exact hb h
    · split at h
      · obtain ⟨st, td⟩ := s
        exact Good.fol hc st td s' g h
      · cases h
        exact g
theorem Good.put {ms : List Mrk} {m : Mrk} {ah : Option Mrk} {s s' : Lay} (hm : m.Ok) (g : Good ms s) (h : putF m ah s = some s') : Good (ms ++ [m]) s' := by
  obtain ⟨s1, h1, h2⟩ := Option.bind_eq_some_iff.mp h
  obtain ⟨s2, h3, rfl⟩ := Option.map_eq_some_iff.mp h2
  have g1 := g.enter hm.col h1
  refine Good.mark (s := s2) ?_ hm.kind
  split at h3
  · unfold brkF at h3
    split at h3
    · split at h3
      · cases h3
      · cases h3
        exact ⟨g1.flt, by rw [g1.cols]; exact congrArg some (blk_brk _).symm⟩
    · split at h3
      · rename_i h4
        cases h3
        obtain ⟨st, td⟩ := s1
        exact Good.pop st td h4.2 g1
      · cases h3
        exact g1
  · cases h3
    exact g1
theorem Good.run : ∀ (ns ms : List Mrk) (ah : Option Mrk) (s s' : Lay), (∀ m ∈ ns, m.Ok) → Good ms s → runF ns ah s = some s' → Good (ms ++ ns) s' := by
  intro ns
  induction ns with
  | nil =>
    intro ms ah s s' _ g h
    cases h
    rw [List.append_nil]
    exact g
  | cons m r ih =>
    intro ms ah s s' hk g h
    obtain ⟨s1, h1, h2⟩ := Option.bind_eq_some_iff.mp h
    have g1 := g.put (hk m (List.mem_cons_self ..)) h1
    have := ih (ms ++ [m]) (some m) s1 s' (fun x hx => hk x (List.mem_cons_of_mem _ hx)) g1 h2
    rw [List.append_assoc] at this
    exact this
theorem Good.close {ms : List Mrk} {cnt : Int} : ∀ (st : List Int) (td : List Mrk), Good ms ⟨st, td⟩ → Good ms ⟨[], closeF cnt st td⟩ := by
  intro st
  induction st with
  | nil => intro td g; exact g
  | cons c r ih =>
    intro td g
    unfold closeF
    refine ih _ ?_
    split
    · rename_i h1
      exact ⟨g.flt, by rw [g.cols]; show some (blk (c :: r)) = _; rw [h1, blk_brk]⟩
    · rename_i h1
      exact g.push (m := ⟨"lay", "}", cnt, 0⟩) (x := lay "}" ⟨"lay", "}", cnt, 0⟩) rfl (close3 rfl h1)

/-! chk2 -/
def Ch (td : List Mrk) (p : Int × Int) : Prop := chk2 td p = true
theorem Ch.lay {td : List Mrk} {s : Str} {m : Mrk} (h : Ch td (m.line, m.col)) : Ch (lay s m :: td) (m.line, m.col) := by
  unfold Ch chk2
  rw [if_neg (fun z => z.2 rfl)]
  exact h
theorem Ch.mark {td : List Mrk} {m : Mrk} (hk : m.kind ≠ "lay") (h : Ch td (m.line, m.col)) (p : Int × Int) : Ch (m :: td) p := by
  unfold Ch chk2
  rw [if_neg (fun z => hk z.1)]
  exact h
theorem Ch.fol {m : Mrk} : ∀ (st : List Int) (td : List Mrk) (s' : Lay), Ch td (m.line, m.col) → folF m st td = some s' → Ch s'.td (m.line, m.col) := by
  intro st
  induction st with
  | nil => intro td s' g h; cases h
  | cons c r ih =>
    intro td s' g h
    unfold folF at h
    split at h
    · split at h
      · cases h
      · exact ih _ _ g.lay h
    · split at h
      · cases h
        exact g.lay
      · cases h
        exact g
theorem Ch.pop {m : Mrk} : ∀ (st : List Int) (td : List Mrk), Ch td (m.line, m.col) → Ch (popF m st td).td (m.line, m.col) := by
  intro st
  induction st with
  | nil => intro td g; exact g
  | cons c r ih =>
    intro td g
    unfold popF
    split
    · exact g
    · exact ih _ g.lay
theorem Ch.put {m : Mrk} {ah : Option Mrk} {s s' : Lay} (hk : m.kind ≠ "lay") (g : Ch s.td (m.line, m.col)) (h : putF m ah s = some s') (p : Int × Int) : Ch s'.td p := by
  obtain ⟨s1, h1, h2⟩ := Option.bind_eq_some_iff.mp h
  obtain ⟨s2, h3, rfl⟩ := Option.map_eq_some_iff.mp h2
  have hb : ∀ {s'}, blockF m s = some s' → Ch s'.td (m.line, m.col) := fun {s'} h => by
    unfold blockF at h
    split at h
    · cases h
    · split at h
      · cases h
      · cases h
        exact g.lay
  have g1 : Ch s1.td (m.line, m.col) := by
    unfold enterF at h1
    split at h1
    · exact hb h1
    · split at h1
      · exact hb h1
      · split at h1
        · exact Ch.fol _ _ _ g h1
        · cases h1
          exact g
  refine Ch.mark hk ?_ p
  split at h3
  · unfold brkF at h3
    split at h3
    · split at h3
      · cases h3
      · cases h3
        exact g1
    · split at h3
      · cases h3
        exact Ch.pop _ _ g1
      · cases h3
        exact g1
  · cases h3
    exact g1
theorem Ch.run : ∀ (ns : List Mrk) (ah : Option Mrk) (s s' : Lay), (∀ m ∈ ns, m.Ok) → (∀ p, Ch s.td p) → runF ns ah s = some s' → ∀ p, Ch s'.td p := by
  intro ns
  induction ns with
  | nil =>
    intro ah s s' _ g h
    cases h
    exact g
  | cons m r ih =>
    intro ah s s' hk g h
    obtain ⟨s1, h1, h2⟩ := Option.bind_eq_some_iff.mp h
    exact ih (some m) s1 s' (fun x hx => hk x (List.mem_cons_of_mem _ hx)) (Ch.put (hk m (List.mem_cons_self ..)).kind (g _) h1) h2
theorem Ch.close {cnt : Int} : ∀ (st : List Int) (td : List Mrk), Ch td (cnt, 0) → Ch (closeF cnt st td) (cnt, 0) := by
  intro st
  induction st with
  | nil => intro td g; exact g
  | cons c r ih =>
    intro td g
    unfold closeF
    refine ih _ ?_
    split
    · exact g
    · unfold Ch chk2
      rw [if_neg (fun z => z.2 rfl)]
      exact g
/-- THEOREM A: whatever is laid out passes the law's look -/
structure Passes (t : List Nat) (fs : List Mrk) : Prop where
  marks : marksF t = some (fs.filter fun m => decide (m.kind ≠ ("lay" : Str)))
  places : chk2 fs.reverse (cntT t, 0) = true
  cols : run3 fs [] = some []
theorem laid_passes {t : List Nat} {fs : List Mrk} (h : laidF t = some fs) : Passes t fs := by
  obtain ⟨ms, hm, h2⟩ := Option.bind_eq_some_iff.mp h
  obtain ⟨s, hs, rfl⟩ := Option.map_eq_some_iff.mp h2
  have hk := marksF_ok hm
  have g := Good.run ms [] none ⟨[], []⟩ s hk ⟨rfl, rfl⟩ hs
  have c := Ch.run ms none ⟨[], []⟩ s hk (fun p => rfl) hs
  rw [List.nil_append] at g
  obtain ⟨st, td⟩ := s
  have g2 := Good.close (cnt := cntT t) st td g
  refine ⟨?_, ?_, ?_⟩
  · rw [hm]
    exact congrArg some g2.flt.symm
  · rw [List.reverse_reverse]
    exact Ch.close st td (c _)
  · exact g2.cols

/-! ### the bottom of the stack -/
/-- the text's block lies at the bottom -/
def Bot (st : List Int) : Prop := ∃ (l : List Int) (b : Int), st = l ++ [b] ∧ 0 ≤ b
theorem Bot.ne {st : List Int} (h : Bot st) : st ≠ [] := by
  obtain ⟨l, b, rfl, _⟩ := h
  simp
theorem Bot.cons {st : List Int} (h : Bot st) (c : Int) : Bot (c :: st) := by
  obtain ⟨l, b, rfl, hb⟩ := h
  exact ⟨c :: l, b, rfl, hb⟩
theorem Bot.one {b : Int} (h : 0 ≤ b) : Bot [b] := ⟨[], b, rfl, h⟩
theorem Bot.tail {c : Int} {r : List Int} (h : Bot (c :: r)) (hr : r ≠ []) : Bot r := by
  obtain ⟨l, b, e, hb⟩ := h
  cases l with
  | nil =>
    injection e with e1 e2
    exact absurd e2 hr
  | cons d l =>
    injection e with e1 e2
    exact ⟨l, b, e2, hb⟩
theorem Bot.tail2 {c : Int} {r : List Int} (h : Bot (c :: r)) (hc : c = -1) : Bot r := by
  refine h.tail fun e => ?_
  obtain ⟨l, b, e2, hb⟩ := h
  rw [e] at e2
  cases l with
  | nil =>
    injection e2 with e1 _
    omega
  | cons d l =>
    injection e2 with e1 e3
    simp at e3
theorem Bot.fol {m : Mrk} : ∀ (st : List Int) (td : List Mrk) (s' : Lay), Bot st → folF m st td = some s' → Bot s'.st := by
  intro st
  induction st with
  | nil => intro td s' g h; cases h
  | cons c r ih =>
    intro td s' g h
    unfold folF at h
    split at h
    · split at h
      · cases h
      · rename_i h1
        exact ih _ _ (g.tail h1) h
    · split at h
      · cases h
        exact g
      · cases h
        exact g
theorem Bot.pop {m : Mrk} : ∀ (st : List Int) (td : List Mrk), Bot st → (-1) ∈ st → Bot (popF m st td).st := by
  intro st
  induction st with
  | nil => intro td g h; cases h
  | cons c r ih =>
    intro td g h
    unfold popF
    split
    · rename_i h1
      exact g.tail2 h1
    · rename_i h1
      have hr : (-1) ∈ r := by
        rcases List.mem_cons.mp h with e | e
        · exact absurd e.symm h1
        · exact e
      exact ih _ (g.tail (List.ne_nil_of_mem hr)) hr
theorem Bot.enter {m : Mrk} {ah : Option Mrk} {s s' : Lay} (hc : 0 ≤ m.col) (hb : ah = none ∧ s.st = [] ∨ Bot s.st) (h : enterF m ah s = some s') : Bot s'.st := by
  have hB : ∀ {s'}, blockF m s = some s' → Bot s'.st := fun {s'} h => by
    unfold blockF at h
    split at h
    · cases h
    · split at h
      · cases h
      · cases h
        show Bot (m.col :: s.st)
        rcases hb with ⟨_, e⟩ | e
        · rw [e]
          exact Bot.one hc
        · exact e.cons _
  unfold enterF at h
  split at h
  · exact hB h
  · have hb' : Bot s.st := by
      rcases hb with ⟨e, _⟩ | e
      · cases e
      · exact e
    split at h
    · exact hB h
    · split at h
      · exact Bot.fol _ _ _ hb' h
      · cases h
        exact hb'
theorem Bot.put {m : Mrk} {ah : Option Mrk} {s s' : Lay} (hm : m.Ok) (hb : ah = none ∧ s.st = [] ∨ Bot s.st) (h : putF m ah s = some s') : Bot s'.st := by
  obtain ⟨s1, h1, h2⟩ := Option.bind_eq_some_iff.mp h
  obtain ⟨s2, h3, rfl⟩ := Option.map_eq_some_iff.mp h2
  have g1 := Bot.enter hm.col hb h1
  show Bot s2.st
  split at h3
  · unfold brkF at h3
    split at h3
    · split at h3
      · cases h3
      · cases h3
        exact g1.cons _
    · split at h3
      · rename_i h4
        cases h3
        exact Bot.pop _ _ g1 h4.2
      · cases h3
        exact g1
  · cases h3
    exact g1
end TP
/-! P2: what the writer's pen keeps: a text's prefix is cut to marks and laid out, with such a stack. -/
namespace TP
open PySem L2

/-! ### two texts, one behind the other -/
/-- signs that don't run into one another -/
def okB (x y : Nat) : Prop := ¬ (x ∈ LT ∧ y ∈ LT) ∧ ¬ (x ∈ FG ∧ y ∈ FG) ∧ ¬ (x = 61 ∧ y = 61) ∧ ¬ (x = 45 ∧ y = 62) ∧ ¬ (x = 91 ∧ y = 93)
def bnd (xs ys : List Nat) : Prop := ∀ x y, xs.getLast? = some x → ys.head? = some y → okB x y
theorem okB_l {y : Nat} : okB 32 y := by
  refine ⟨fun z => ?_, fun z => ?_, fun z => ?_, fun z => ?_, fun z => ?_⟩
  · have := mem_LT.mp z.1; omega
  · have := mem_FG.mp z.1; omega
  · omega
  · omega
  · omega
theorem okB_r {x y : Nat} (h : y = 32 ∨ y = 35 ∨ y = 41 ∨ y = 40) : okB x y := by
  refine ⟨fun z => ?_, fun z => ?_, fun z => ?_, fun z => ?_, fun z => ?_⟩
  · have := mem_LT.mp z.2; omega
  · have := mem_FG.mp z.2; omega
  · omega
  · omega
  · omega
theorem bnd_tail {c d : Nat} {xs ys : List Nat} (h : bnd (c :: d :: xs) ys) : bnd (d :: xs) ys := fun x y hx hy => h x y (by rw [List.getLast?_cons_cons]; exact hx) hy
theorem runs_app {S xs ys : List Nat} (h : ∀ x y, xs.getLast? = some x → ys.head? = some y → ¬ (x ∈ S ∧ y ∈ S)) (hx : xs ≠ []) : runs S (xs ++ ys) = runs S xs := by
  unfold runs
  induction xs with
  | nil => exact absurd rfl hx
  | cons c r ih =>
    rw [List.cons_append, List.takeWhile_cons, List.takeWhile_cons]
    split
    · rename_i hc
      congr 1
      cases r with
      | nil =>
        rw [List.nil_append, List.takeWhile_nil]
        cases ys with
        | nil => rfl
        | cons y ys =>
          rw [List.takeWhile_cons, if_neg]
          intro z
          exact h c y rfl rfl ⟨of_decide_eq_true hc, of_decide_eq_true z⟩
      | cons d r => exact ih (fun x y hx hy => h x y (by rw [List.getLast?_cons_cons]; exact hx) hy) (by simp)
    · rfl
theorem tok_app {xs ys : List Nat} (hx : xs ≠ []) (h : bnd xs ys) : tok (xs ++ ys) = tok xs := by
  have e1 : runs LT (xs ++ ys) = runs LT xs := runs_app (fun x y a b => (h x y a b).1) hx
  have e2 : runs FG (xs ++ ys) = runs FG xs := runs_app (fun x y a b => (h x y a b).2.1) hx
  have e3 : (signsL.find? fun s => decide ((xs ++ ys).take s.length = s)) = signsL.find? fun s => decide (xs.take s.length = s) := by
    cases xs with
    | nil => exact absurd rfl hx
    | cons x r =>
      cases r with
      | nil =>
        cases ys with
        | nil => rfl
        | cons y ys =>
          have q := h x y rfl rfl
          have a1 : decide ([x, y] = [61, 61]) = false := decide_eq_false (fun z => q.2.2.1 (by simpa using z))
          have a2 : decide ([x, y] = [45, 62]) = false := decide_eq_false (fun z => q.2.2.2.1 (by simpa using z))
          have a3 : decide ([x, y] = [91, 93]) = false := decide_eq_false (fun z => q.2.2.2.2 (by simpa using z))
          have b1 : decide ([x] = [61, 61]) = false := decide_eq_false (by simp)
          have b2 : decide ([x] = [45, 62]) = false := decide_eq_false (by simp)
          have b3 : decide ([x] = [91, 93]) = false := decide_eq_false (by simp)
          unfold signsL
          simp only [List.find?, List.cons_append, List.nil_append, List.length_cons, List.length_nil, List.take_succ_cons, List.take_zero, List.take_nil, Nat.zero_add, Nat.reduceAdd, a1, a2, a3, b1, b2, b3]
      | cons x2 r =>
        unfold signsL
        simp only [List.find?, List.cons_append, List.length_cons, List.length_nil, List.take_succ_cons, List.take_zero, Nat.zero_add, Nat.reduceAdd]
  unfold tok
  rw [e1, e2, e3]
theorem runs_le {S cs : List Nat} : (runs S cs).length ≤ cs.length := List.Sublist.length_le (List.takeWhile_sublist _)
theorem tok_le {cs : List Nat} {q : Str × List Nat} (h : tok cs = some q) : q.2.length ≤ cs.length := by
  unfold tok at h
  split at h
  · split at h
    · cases h
    · cases h
      exact runs_le
  · split at h
    · split at h
      · cases h
      · cases h
        exact runs_le
    · obtain ⟨s, hs, rfl⟩ := Option.map_eq_some_iff.mp h
      have hp : List.take s.length cs = s := by simpa using List.find?_some hs
      have := congrArg List.length hp
      rw [List.length_take] at this
      show s.length ≤ cs.length
      omega
theorem lexRow_app {line : Int} : ∀ (xs ys : List Nat) (k a : Nat), k ≤ xs.length → 35 ∉ xs → bnd xs ys →
    lexRow line k a (xs ++ ys) = (lexRow line k a xs).bind fun p => (lexRow line 0 (a + xs.length) ys).map fun q => p ++ q := by
  intro xs
  induction xs with
  | nil =>
    intro ys k a hk h35 hb
    have : k = 0 := by simpa using hk
    subst this
    rw [List.nil_append, lexRow_nil]
    show _ = (lexRow line 0 (a + 0) ys).map fun q => [] ++ q
    simp
  | cons c xs ih =>
    intro ys k a hk h35 hb
    have hb' : ∀ k, k ≤ xs.length → lexRow line k (a + 1) (xs ++ ys) = (lexRow line k (a + 1) xs).bind fun p => (lexRow line 0 (a + (xs.length + 1)) ys).map fun q => p ++ q := fun k hk => by
      cases xs with
      | nil =>
        have : k = 0 := by simpa using hk
        subst this
        rw [List.nil_append, lexRow_nil]
        show _ = (lexRow line 0 (a + (0 + 1)) ys).map fun q => [] ++ q
        simp
      | cons d r =>
        have q := ih ys k (a + 1) hk (fun z => h35 (List.mem_cons_of_mem _ z)) (bnd_tail hb)
        rw [q]
        have e : a + 1 + (d :: r).length = a + ((d :: r).length + 1) := by omega
        rw [e]
    cases k with
    | succ k =>
      show lexRow line k (a + 1) (xs ++ ys) = (lexRow line k (a + 1) xs).bind _
      exact hb' k (by simpa using hk)
    | zero =>
      have hc : c ≠ 35 := fun z => h35 (by rw [z]; exact List.mem_cons_self ..)
      show (if c = 35 then _ else if c = 32 then lexRow line 0 (a + 1) (xs ++ ys) else match tok ((c :: xs) ++ ys) with
        | none => none
        | some q => (lexRow line (q.2.length - 1) (a + 1) (xs ++ ys)).map fun r => ⟨q.1, mkS q.2, line, (a : Nat)⟩ :: r) = Option.bind (if c = 35 then _ else if c = 32 then lexRow line 0 (a + 1) xs else match tok (c :: xs) with
        | none => none
        | some q => (lexRow line (q.2.length - 1) (a + 1) xs).map fun r => ⟨q.1, mkS q.2, line, (a : Nat)⟩ :: r) _
      rw [if_neg hc, if_neg hc, tok_app (by simp) hb]
      split
      · exact hb' 0 (Nat.zero_le _)
      · cases ht : tok (c :: xs) with
        | none => rfl
        | some q =>
          have hq := tok_le ht
          rw [List.length_cons] at hq
          dsimp only
          rw [hb' (q.2.length - 1) (by omega)]
          cases lexRow line (q.2.length - 1) (a + 1) xs with
          | none => rfl
          | some p =>
            show Option.map _ ((lexRow line 0 (a + (xs.length + 1)) ys).map _) = Option.map _ _
            rw [Option.map_map]
            rfl
theorem lexRow_blanks (line : Int) : ∀ (n a : Nat), lexRow line 0 a (List.replicate n 32) = some []
  | 0, a => lexRow_nil ..
  | n + 1, a => by
    rw [List.replicate_succ, lexRow_blank]
    exact lexRow_blanks line n (a + 1)

/-! ### rows -/
theorem pre10 {c : Nat} {cs : List Nat} : TL.pre [10] (c :: cs) = decide (c = 10) := by
  unfold TL.pre
  show ([c] == [10]) = _
  by_cases h : c = 10
  · subst h; rfl
  · rw [decide_eq_false h]
    simp [h]
theorem spl_cons {acc cs : List Nat} {c : Nat} : TL.spl [10] 0 acc (c :: cs) = if c = 10 then acc :: TL.spl [10] 0 [] cs else TL.spl [10] 0 (acc ++ [c]) cs := by
  by_cases h : c = 10
  · rw [if_pos h, TL.spl_hit (by rw [pre10]; exact decide_eq_true h)]
    rfl
  · rw [if_neg h, TL.spl_miss (by rw [pre10]; exact decide_eq_false h)]
theorem spl_ne (acc : List Nat) : ∀ t : List Nat, TL.spl [10] 0 acc t ≠ []
  | [] => by rw [TL.spl_nil]; simp
  | c :: cs => by
    rw [spl_cons]
    split
    · simp
    · exact spl_ne _ cs
theorem spl_app {w : List Nat} (hw : 10 ∉ w) : ∀ (t acc : List Nat) (R : List (List Nat)) (r : List Nat), TL.spl [10] 0 acc t = R ++ [r] → TL.spl [10] 0 acc (t ++ w) = R ++ [r ++ w] := by
  intro t
  induction t with
  | nil =>
    intro acc R r h
    rw [TL.spl_nil] at h
    cases R with
    | nil =>
      have : acc = r := by simpa using h
      subst this
      rw [List.nil_append, TL.spl_last1 hw]
      rfl
    | cons a R => simp at h
  | cons c cs ih =>
    intro acc R r h
    rw [spl_cons] at h
    rw [List.cons_append, spl_cons]
    split at h
    · rename_i hc
      rw [if_pos hc]
      cases R with
      | nil =>
        rw [List.nil_append] at h
        injection h with _ h2
        exact absurd h2 (spl_ne _ _)
      | cons a R =>
        rw [List.cons_append] at h
        injection h with h1 h2
        rw [ih [] R r h2, h1]
        rfl
    · rename_i hc
      rw [if_neg hc]
      exact ih _ R r h
theorem spl_line : ∀ (t acc : List Nat) (R : List (List Nat)), TL.spl [10] 0 acc t = R → TL.spl [10] 0 acc (t ++ [10]) = R ++ [[]] := by
  intro t
  induction t with
  | nil =>
    intro acc R h
    rw [TL.spl_nil] at h
    subst h
    rw [List.nil_append, spl_cons, if_pos rfl, TL.spl_nil]
    rfl
  | cons c cs ih =>
    intro acc R h
    rw [spl_cons] at h
    rw [List.cons_append, spl_cons]
    split at h
    · rename_i hc
      rw [if_pos hc]
      subst h
      rw [ih [] _ rfl]
      rfl
    · rename_i hc
      rw [if_neg hc]
      exact ih _ R h
theorem lexRows_app : ∀ (R Q : List (List Nat)) (i : Nat), lexRows i (R ++ Q) = (lexRows i R).bind fun a => (lexRows (i + R.length) Q).map fun b => a ++ b := by
  intro R
  induction R with
  | nil =>
    intro Q i
    show lexRows i Q = (lexRows (i + 0) Q).map fun b => [] ++ b
    simp
  | cons r R ih =>
    intro Q i
    show (lexRow (i : Nat) 0 0 r).bind (fun a => (lexRows (i + 1) (R ++ Q)).map fun b => a ++ b) = ((lexRow (i : Nat) 0 0 r).bind fun a => (lexRows (i + 1) R).map fun b => a ++ b).bind _
    rw [ih Q (i + 1)]
    have e : i + 1 + R.length = i + (r :: R).length := by rw [List.length_cons]; omega
    rw [e]
    cases lexRow (i : Nat) 0 0 r with
    | none => rfl
    | some a =>
      cases lexRows (i + 1) R with
      | none => rfl
      | some b =>
        show Option.map _ (Option.map _ (lexRows (i + (r :: R).length) Q)) = Option.map _ _
        rw [Option.map_map]
        congr 1
        funext c
        exact (List.append_assoc ..).symm
theorem lexRows_one (i : Nat) (r : List Nat) : lexRows i [r] = lexRow (i : Nat) 0 0 r := by
  show (lexRow (i : Nat) 0 0 r).bind (fun a => (some []).map fun b => a ++ b) = _
  cases lexRow (i : Nat) 0 0 r with
  | none => rfl
  | some a => simp

/-! ### the stack alone -/
def folS (col : Int) : List Int → Option (List Int)
  | [] => none
  | c :: r => if c > col then (if r = [] then none else folS col r) else some (c :: r)
def popS : List Int → List Int
  | [] => []
  | c :: r => if c = -1 then r else popS r
def blockS (col : Int) (st : List Int) : Option (List Int) := if st.any (fun x => decide (col ≤ x)) = true then none else if st.length = 24 then none else some (col :: st)
def enterS (line col : Int) (ah : Option Mrk) (st : List Int) : Option (List Int) := match ah with
  | none => blockS col st
  | some a => if opener a = true then blockS col st else if a.line < line then folS col st else some st
def brkS (k w : Str) (st : List Int) : Option (List Int) :=
  if k = "sign" then (if w = "(" then (if st.length = 24 then none else some (-1 :: st)) else if w = ")" ∧ (-1) ∈ st then some (popS st) else some st) else some st
theorem folS_eq (m : Mrk) : ∀ (st : List Int) (td : List Mrk), (folF m st td).map Lay.st = folS m.col st := by
  intro st
  induction st with
  | nil => intro td; rfl
  | cons c r ih =>
    intro td
    unfold folF folS
    split
    · split
      · rfl
      · exact ih _
    · split <;> rfl
theorem popS_eq (m : Mrk) : ∀ (st : List Int) (td : List Mrk), (popF m st td).st = popS st := by
  intro st
  induction st with
  | nil => intro td; rfl
  | cons c r ih =>
    intro td
    unfold popF popS
    split
    · rfl
    · exact ih _
theorem blockS_eq (m : Mrk) (s : Lay) : (blockF m s).map Lay.st = blockS m.col s.st := by
  unfold blockF blockS
  split
  · rfl
  · split <;> rfl
theorem enterS_eq (m : Mrk) (ah : Option Mrk) (s : Lay) : (enterF m ah s).map Lay.st = enterS m.line m.col ah s.st := by
  cases ah with
  | none => exact blockS_eq m s
  | some a =>
    show (if opener a = true then blockF m s else if a.line < m.line then folF m s.st s.td else some s).map Lay.st = if opener a = true then blockS m.col s.st else if a.line < m.line then folS m.col s.st else some s.st
    split
    · exact blockS_eq m s
    · split
      · exact folS_eq m _ _
      · rfl
theorem brkS_eq (m : Mrk) (s : Lay) : (if m.kind = "sign" then brkF m s else some s).map Lay.st = brkS m.kind m.word s.st := by
  unfold brkS brkF
  split
  · split
    · split <;> rfl
    · split
      · exact congrArg some (popS_eq m _ _)
      · rfl
  · rfl
theorem putS_ok {m : Mrk} {ah : Option Mrk} {s : Lay} {S S' : List Int} (h1 : enterS m.line m.col ah s.st = some S) (h2 : brkS m.kind m.word S = some S') : ∃ td, putF m ah s = some ⟨S', td⟩ := by
  rw [← enterS_eq] at h1
  obtain ⟨s1, e1, rfl⟩ := Option.map_eq_some_iff.mp h1
  rw [← brkS_eq] at h2
  obtain ⟨s2, e2, rfl⟩ := Option.map_eq_some_iff.mp h2
  refine ⟨m :: s2.td, ?_⟩
  unfold putF
  rw [e1]
  show Option.map _ (if m.kind = "sign" then brkF m s1 else some s1) = _
  rw [e2]
  rfl
theorem runF_app : ∀ (a b : List Mrk) (ah : Option Mrk) (s : Lay), runF (a ++ b) ah s = (runF a ah s).bind fun s1 => runF b (a.getLast?.or ah) s1 := by
  intro a
  induction a with
  | nil => intro b ah s; rfl
  | cons m r ih =>
    intro b ah s
    show (putF m ah s).bind (fun s1 => runF (r ++ b) (some m) s1) = ((putF m ah s).bind fun s1 => runF r (some m) s1).bind _
    cases putF m ah s with
    | none => rfl
    | some s1 =>
      show runF (r ++ b) (some m) s1 = (runF r (some m) s1).bind _
      rw [ih b (some m) s1]
      have e : r.getLast?.or (some m) = (m :: r).getLast?.or ah := by
        cases r with
        | nil => rfl
        | cons d r =>
          rw [List.getLast?_cons_cons]
          have : ∃ z, (d :: r).getLast? = some z := ⟨_, List.getLast?_eq_some_getLast (by simp)⟩
          obtain ⟨z, hz⟩ := this
          rw [hz]
          rfl
      rw [e]

/-! ### the pen -/
structure PenB (t : List Nat) (line col : Int) (st : List Int) (ah : Option Mrk) (r : List Nat) : Prop where
  rows : ∃ R : List (List Nat), rowsT t = R ++ [r] ∧ line = ((R.length : Nat) : Int)
  colE : col = ((r.length : Nat) : Int)
  clean : 35 ∉ r
  run : ∃ (ms : List Mrk) (td : List Mrk), marksF t = some ms ∧ runF ms none ⟨[], []⟩ = some ⟨st, td⟩ ∧ ms.getLast? = ah
  ahl : ∀ a, ah = some a → a.line ≤ line
theorem PenB.start : PenB [] 0 0 [] none [] := ⟨⟨[], rfl, rfl⟩, rfl, by simp, ⟨[], [], rfl, rfl, rfl⟩, fun a h => by cases h⟩
theorem PenB.laid {t : List Nat} {line col : Int} {st : List Int} {ah : Option Mrk} {r : List Nat} (h : PenB t line col st ah r) : ∃ fs, laidF t = some fs := by
  obtain ⟨ms, td, h1, h2, _⟩ := h.run
  refine ⟨(closeF (cntT t) st td).reverse, ?_⟩
  unfold laidF
  rw [h1]
  show Option.map _ (runF ms none ⟨[], []⟩) = _
  rw [h2]
  rfl
/-- what is written on the same line, cut to these marks -/
theorem PenB.more {t w : List Nat} {line col : Int} {st st' : List Int} {ah : Option Mrk} {r : List Nat} {ns : List Mrk} (h : PenB t line col st ah r) (h10 : 10 ∉ w) (h35 : 35 ∉ w) (hb : bnd r w)
    (hl : lexRow line 0 r.length w = some ns) (hrun : ∀ td, ∃ td', runF ns ah ⟨st, td⟩ = some ⟨st', td'⟩) (hns : ∀ a ∈ ns, a.line ≤ line) :
    PenB (t ++ w) line (col + ((w.length : Nat) : Int)) st' (ns.getLast?.or ah) (r ++ w) := by
  obtain ⟨R, hR, hl2⟩ := h.rows
  obtain ⟨ms, td, h1, h2, h3⟩ := h.run
  refine ⟨⟨R, spl_app h10 _ _ _ _ hR, hl2⟩, ?_, ?_, ?_, fun a e => ?_⟩
  · rw [h.colE, List.length_append]
    omega
  · intro z
    rcases List.mem_append.mp z with z | z
    · exact h.clean z
    · exact h35 z
  · unfold marksF at h1
    rw [hR, lexRows_app, lexRows_one] at h1
    obtain ⟨a, ha, h4⟩ := Option.bind_eq_some_iff.mp h1
    obtain ⟨b, hb2, rfl⟩ := Option.map_eq_some_iff.mp h4
    have eline : ((0 + R.length : Nat) : Int) = line := by rw [hl2]; simp
    rw [eline] at hb2
    have e1 : lexRow line 0 0 (r ++ w) = some (b ++ ns) := by
      rw [lexRow_app r w 0 0 (Nat.zero_le _) h.clean hb, hb2]
      show Option.map _ (lexRow line 0 (0 + r.length) w) = _
      rw [Nat.zero_add, hl]
      rfl
    obtain ⟨td', hr⟩ := hrun td
    refine ⟨a ++ b ++ ns, td', ?_, ?_, ?_⟩
    · unfold marksF rowsT
      rw [spl_app h10 _ _ _ _ hR, lexRows_app, ha, lexRows_one, eline, e1]
      show some (a ++ (b ++ ns)) = _
      rw [List.append_assoc]
    · rw [runF_app, h2]
      show runF ns ((a ++ b).getLast?.or none) ⟨st, td⟩ = _
      rw [h3, Option.or_none]
      exact hr
    · rw [List.getLast?_append, h3]
  · cases hn : ns.getLast? with
    | none =>
      rw [hn] at e
      exact h.ahl a e
    | some z =>
      rw [hn] at e
      cases e
      exact hns _ (List.mem_of_getLast? hn)
theorem PenB.blanks {t : List Nat} {line col : Int} {st : List Int} {ah : Option Mrk} {r : List Nat} (h : PenB t line col st ah r) (n : Nat) :
    PenB (t ++ List.replicate n 32) line (col + ((n : Nat) : Int)) st ah (r ++ List.replicate n 32) := by
  have q := h.more (w := List.replicate n 32) (ns := []) (st' := st) (by rw [List.mem_replicate]; omega) (by rw [List.mem_replicate]; omega) (fun x y _ hy => ?_) (lexRow_blanks ..) (fun td => ⟨td, rfl⟩) (by simp)
  · rw [List.length_replicate] at q
    exact q
  · have : y ∈ List.replicate n 32 := List.mem_of_head? hy
    exact okB_r (.inl (List.mem_replicate.mp this).2)
/-- a line's rest that holds no mark -/
structure Idle (rem : List Nat) : Prop where
  no10 : 10 ∉ rem
  none_ : ∀ (line : Int) (a : Nat), lexRow line 0 a rem = some []
  head : ∀ y, rem.head? = some y → y = 32 ∨ y = 35
theorem PenB.line {t rem : List Nat} {line col : Int} {st : List Int} {ah : Option Mrk} {r : List Nat} (h : PenB t line col st ah r) (hi : Idle rem) :
    PenB (t ++ rem ++ [10]) (line + 1) 0 st ah [] := by
  obtain ⟨R, hR, hl2⟩ := h.rows
  obtain ⟨ms, td, h1, h2, h3⟩ := h.run
  have hR2 : rowsT (t ++ rem ++ [10]) = R ++ [r ++ rem] ++ [[]] := spl_line _ _ _ (spl_app hi.no10 _ _ _ _ hR)
  refine ⟨⟨R ++ [r ++ rem], hR2, ?_⟩, rfl, by simp, ⟨ms, td, ?_, h2, h3⟩, fun a e => Int.le_trans (h.ahl a e) (by omega)⟩
  · rw [List.length_append, hl2]
    simp
  · unfold marksF at h1 ⊢
    rw [hR, lexRows_app, lexRows_one] at h1
    obtain ⟨a, ha, h4⟩ := Option.bind_eq_some_iff.mp h1
    obtain ⟨b, hb2, rfl⟩ := Option.map_eq_some_iff.mp h4
    have e1 : lexRow ((0 + R.length : Nat) : Int) 0 0 (r ++ rem) = some b := by
      rw [lexRow_app r rem 0 0 (Nat.zero_le _) h.clean (fun x y _ hy => okB_r ((hi.head y hy).elim .inl fun z => .inr (.inl z))), hb2]
      show Option.map _ (lexRow _ 0 (0 + r.length) rem) = _
      rw [hi.none_]
      simp
    rw [hR2, List.append_assoc, lexRows_app, ha]
    show Option.map _ (lexRows (0 + R.length) ([r ++ rem] ++ [[]])) = _
    rw [lexRows_app, lexRows_one, e1]
    show Option.map _ (Option.map _ (lexRows (0 + R.length + 1) [[]])) = _
    rw [lexRows_one, lexRow_nil]
    simp

/-- a word that is one mark -/
structure Word (k : Str) (w : List Nat) : Prop where
  tok : tok w = some (k, w)
  no10 : 10 ∉ w
  no35 : 35 ∉ w
  no32 : 32 ∉ w
  ne : w ≠ []
theorem Word.lex {k : Str} {w : List Nat} (h : Word k w) (line : Int) (a : Nat) : lexRow line 0 a w = some [⟨k, mkS w, line, (a : Nat)⟩] := by
  cases w with
  | nil => exact absurd rfl h.ne
  | cons c cs =>
    rw [lexRow_tok (fun z => h.no35 (by rw [z]; exact List.mem_cons_self ..)) (fun z => h.no32 (by rw [z]; exact List.mem_cons_self ..)) h.tok]
    show (lexRow line 0 _ ((c :: cs).drop (c :: cs).length)).map _ = _
    rw [List.drop_length, lexRow_nil]
    rfl
theorem PenB.word {t w : List Nat} {k : Str} {line col : Int} {st S S' : List Int} {ah : Option Mrk} {r : List Nat} (h : PenB t line col st ah r) (hw : Word k w) (hb : bnd r w)
    (h1 : enterS line col ah st = some S) (h2 : brkS k (mkS w) S = some S') :
    PenB (t ++ w) line (col + ((w.length : Nat) : Int)) S' (some ⟨k, mkS w, line, col⟩) (r ++ w) := by
  have q := h.more (ns := [⟨k, mkS w, line, col⟩]) (st' := S') hw.no10 hw.no35 hb (by rw [hw.lex, h.colE]) (fun td => ?_) (fun a ha => ?_)
  · exact q
  · obtain ⟨td', e⟩ := putS_ok (m := ⟨k, mkS w, line, col⟩) (s := ⟨st, td⟩) h1 h2
    refine ⟨td', ?_⟩
    show (putF _ ah ⟨st, td⟩).bind _ = _
    rw [e]
    rfl
  · have e : a = ⟨k, mkS w, line, col⟩ := by simpa using ha
    rw [e]
    exact Int.le_refl _

/-! ### ready to write -/
/-- at the place of the next mark: once it is there the stack is S -/
def PenF (t : List Nat) (line col : Int) (S : List Int) : Prop :=
  ∃ (ah : Option Mrk) (st : List Int) (r : List Nat), PenB t line col st ah r ∧ (∀ x, r.getLast? = some x → x = 32) ∧ enterS line col ah st = some S
/-- behind a mark: the stack is S; op: a block opens at the next mark; x: the last sign -/
def PenU (t : List Nat) (line col : Int) (S : List Int) (op : Bool) (x : Nat) : Prop :=
  ∃ (a : Mrk) (r : List Nat), PenB t line col S (some a) r ∧ a.line = line ∧ opener a = op ∧ r.getLast? = some x ∧ t.getLast? = some x
def isOp (k : Str) (w : List Nat) : Bool := opener ⟨k, mkS w, 0, 0⟩
theorem last_app {r w : List Nat} (h : w ≠ []) : (r ++ w).getLast? = some (w.getLast h) := by
  rw [List.getLast?_append, List.getLast?_eq_some_getLast h]
  rfl
theorem PenF.word {t w : List Nat} {k : Str} {line col : Int} {S S' : List Int} (h : PenF t line col S) (hw : Word k w) (h2 : brkS k (mkS w) S = some S') :
    PenU (t ++ w) line (col + ((w.length : Nat) : Int)) S' (isOp k w) (w.getLast hw.ne) := by
  obtain ⟨ah, st, r, hB, hr, he⟩ := h
  refine ⟨_, _, hB.word hw (fun x y hx _ => ?_) he h2, rfl, rfl, last_app hw.ne, last_app hw.ne⟩
  rw [hr x hx]
  exact okB_l
/-- on the same line, behind n blanks -/
theorem PenU.word {t w : List Nat} {k : Str} {line col : Int} {S S' : List Int} {x : Nat} (h : PenU t line col S false x) (hw : Word k w) (n : Nat) (hn : n = 0 → ∀ y, w.head? = some y → okB x y) (h2 : brkS k (mkS w) S = some S') :
    PenU (t ++ List.replicate n 32 ++ w) line (col + ((n : Nat) : Int) + ((w.length : Nat) : Int)) S' (isOp k w) (w.getLast hw.ne) := by
  obtain ⟨a, r, hB, hl, ho, hx, _⟩ := h
  have he : enterS line (col + ((n : Nat) : Int)) (some a) S = some S := by
    show (if opener a = true then _ else if a.line < line then _ else some S) = _
    rw [ho, if_neg Bool.false_ne_true, if_neg (by omega)]
  refine ⟨_, _, (hB.blanks n).word hw (fun x' y hx' hy => ?_) he h2, rfl, rfl, last_app hw.ne, last_app hw.ne⟩
  cases n with
  | zero =>
    rw [List.replicate_zero, List.append_nil, hx] at hx'
    cases hx'
    exact hn rfl y hy
  | succ n =>
    rw [List.replicate_succ', ← List.append_assoc, List.getLast?_append] at hx'
    have : x' = 32 := by simpa using hx'.symm
    rw [this]
    exact okB_l
/-- behind the line's end -/
structure Lined (t : List Nat) (line : Int) (st : List Int) (ah : Option Mrk) (t1 : List Nat) (line1 col1 : Int) : Prop where
  pen : ∃ r, PenB t1 line1 col1 st ah r ∧ ∀ x, r.getLast? = some x → x = 32
  lt : line < line1
theorem folS_top {col c : Int} {r : List Int} (h : c ≤ col) : folS col (c :: r) = some (c :: r) := by
  unfold folS
  rw [if_neg (by omega)]
theorem folS_ex {col : Int} {S : List Int} (hS : S ≠ []) : ∀ ex : List Int, (∀ e ∈ ex, col < e) → folS col (ex ++ S) = folS col S := by
  intro ex
  induction ex with
  | nil => intro _; rfl
  | cons e ex ih =>
    intro h
    rw [List.cons_append]
    show (if e > col then (if ex ++ S = [] then none else folS col (ex ++ S)) else _) = _
    rw [if_pos (h e (List.mem_cons_self ..)), if_neg (by simp [hS])]
    exact ih fun x hx => h x (List.mem_cons_of_mem _ hx)
/-- blocks to the right close; the next one is at the column or to its left -/
theorem Lined.item {t t1 : List Nat} {line line1 col1 : Int} {a : Mrk} {ex S : List Int} {c : Int} (h : Lined t line (ex ++ c :: S) (some a) t1 line1 col1) (ha : a.line ≤ line) (ho : opener a = false) (hex : ∀ e ∈ ex, col1 < e) (hc : c ≤ col1) :
    PenF t1 line1 col1 (c :: S) := by
  obtain ⟨⟨r, hB, hr⟩, hlt⟩ := h
  refine ⟨_, _, r, hB, hr, ?_⟩
  show (if opener a = true then _ else if a.line < line1 then folS col1 (ex ++ c :: S) else _) = _
  rw [ho, if_neg Bool.false_ne_true, if_pos (by omega), folS_ex (by simp) ex hex, folS_top hc]
theorem blockS_ok {col : Int} {S : List Int} (h : ∀ x ∈ S, x < col) (hl : S.length < 24) : blockS col S = some (col :: S) := by
  unfold blockS
  rw [if_neg, if_neg (by omega)]
  intro z
  obtain ⟨x, hx, hx2⟩ := List.any_eq_true.mp z
  have := of_decide_eq_true hx2
  have := h x hx
  omega
theorem Lined.block {t t1 : List Nat} {line line1 col1 : Int} {a : Mrk} {S : List Int} (h : Lined t line S (some a) t1 line1 col1) (ho : opener a = true) (hS : ∀ x ∈ S, x < col1) (hl : S.length < 24) : PenF t1 line1 col1 (col1 :: S) := by
  obtain ⟨⟨r, hB, hr⟩, hlt⟩ := h
  refine ⟨_, _, r, hB, hr, ?_⟩
  show (if opener a = true then _ else _) = _
  rw [if_pos ho]
  exact blockS_ok hS hl
theorem Lined.first {t t1 : List Nat} {line line1 col1 : Int} (h : Lined t line [] none t1 line1 col1) : PenF t1 line1 col1 [col1] := by
  obtain ⟨⟨r, hB, hr⟩, hlt⟩ := h
  exact ⟨_, _, r, hB, hr, blockS_ok (by simp) (by simp)⟩
theorem PenF.first : PenF [] 0 0 [0] := ⟨_, _, _, PenB.start, by simp, blockS_ok (by simp) (by simp)⟩
/-- a block on the same line, n blanks further -/
theorem PenU.block {t : List Nat} {line col : Int} {S : List Int} {x : Nat} (h : PenU t line col S true x) (n : Nat) (hn : 0 < n) (hS : ∀ x ∈ S, x < col + ((n : Nat) : Int)) (hl : S.length < 24) :
    PenF (t ++ List.replicate n 32) line (col + ((n : Nat) : Int)) ((col + ((n : Nat) : Int)) :: S) := by
  obtain ⟨a, r, hB, hl2, ho, hx, _⟩ := h
  refine ⟨_, _, _, hB.blanks n, fun x' hx' => ?_, ?_⟩
  · cases n with
    | zero => omega
    | succ n =>
      rw [List.replicate_succ', ← List.append_assoc, List.getLast?_append] at hx'
      simpa using hx'.symm
  · show (if opener a = true then _ else _) = _
    rw [if_pos ho]
    exact blockS_ok hS hl
theorem popS_ex {S : List Int} : ∀ ex : List Int, (∀ e ∈ ex, e ≠ -1) → popS (ex ++ -1 :: S) = S := by
  intro ex
  induction ex with
  | nil => intro _; rfl
  | cons e ex ih =>
    intro h
    rw [List.cons_append]
    show (if e = -1 then _ else popS (ex ++ -1 :: S)) = _
    rw [if_neg (h e (List.mem_cons_self ..))]
    exact ih fun x hx => h x (List.mem_cons_of_mem _ hx)
theorem word_close : Word "sign" [41] := ⟨by decide +kernel, by decide, by decide, by decide, by decide⟩
theorem PenU.close {t : List Nat} {line col : Int} {ex S : List Int} {x : Nat} (h : PenU t line col (ex ++ -1 :: S) false x) (hex : ∀ e ∈ ex, e ≠ -1) :
    PenU (t ++ [41]) line (col + 1) S false 41 := by
  have q := h.word word_close 0 (fun _ y hy => okB_r (.inr (.inr (.inl (by simpa using hy.symm))))) (S' := S) (by
    unfold brkS
    rw [if_pos rfl, if_neg (by decide +kernel), if_pos ⟨by decide +kernel, by simp⟩, popS_ex ex hex])
  have e : isOp "sign" [41] = false := by decide +kernel
  rw [e] at q
  simpa using q
end TP
set_option maxRecDepth 100000
/-! the text by places, what a def is, heaps -/
namespace TP
open PySem L2
def top (i : Nat) : Stmt := PySem.Challenge.pw_tierpile_k05_whole_blocks_within.main.body.getD i (.Pass ⟨0, 0, 0, 0⟩)
abbrev sBad : Stmt := inClass (top 2) 0
abbrev sRun : Stmt := top 23
abbrev sMarkAt : Stmt := top 24
abbrev sMarks : Stmt := top 25
abbrev sLyInit : Stmt := inClass (top 29) 0
abbrev sLyLay : Stmt := inClass (top 29) 1
abbrev sLyBegin : Stmt := inClass (top 29) 2
abbrev sLyBlock : Stmt := inClass (top 29) 3
abbrev sLyFirst : Stmt := inClass (top 29) 4
abbrev sLyBrk : Stmt := inClass (top 29) 5
abbrev sLyPut : Stmt := inClass (top 29) 6
abbrev sLaid : Stmt := top 30
abbrev sDraws : Stmt := top 32
abbrev sDraw : Stmt := top 33
abbrev sKeys : Stmt := top 34
abbrev sNames : Stmt := top 35
abbrev sLean : Stmt := top 36
abbrev sLine : Stmt := top 37
abbrev sWord : Stmt := top 38
abbrev sLevel : Stmt := top 39
abbrev sItem : Stmt := top 40
abbrev sBlock : Stmt := top 41
abbrev sWBlock : Stmt := top 42
abbrev sWSo : Stmt := top 43
abbrev sWrite : Stmt := top 44
abbrev sWritten : Stmt := top 45
abbrev sColumns : Stmt := top 46
abbrev sKindOf : Stmt := top 47
abbrev sRefusal : Stmt := top 48
abbrev sTold : Stmt := top 49
abbrev sIsLaid : Stmt := top 50
abbrev sLaw : Stmt := top 51

/-- a def of the module, as its callers need it -/
structure Df (K : PySem.W.Frag) (mg : Str → Option Value) (x : Str) (st : Stmt) (f : Addr) (fd : FuncData) (ps : List Str) : Prop where
  F : Fun K x x st f fd
  g : mg x = some (.ref f)
  b : Binds K fd ps []

/-! ### heaps -/
/-- all that was tracked is as it was, but for what stands at these addresses -/
def SameX (ex : List Addr) (H H' : Hp) : Prop := ∀ b o, H b = some o → b ∉ ex → H' b = some o
theorem SameX.refl (ex : List Addr) (H : Hp) : SameX ex H H := fun _ _ h _ => h
theorem SameX.trans {ex : List Addr} {H H1 H2 : Hp} (a : SameX ex H H1) (b : SameX ex H1 H2) : SameX ex H H2 := fun c o h n => b c o (a c o h n) n
theorem SameX.mono {ex ex' : List Addr} {H H' : Hp} (a : SameX ex H H') (h : ∀ b ∈ ex, b ∈ ex') : SameX ex' H H' := fun c o e n => a c o e fun z => n (h c z)
theorem SameX.of {ex : List Addr} {H H' : Hp} (a : Same H H') : SameX ex H H' := fun b o h _ => a b o h
theorem SameX.same {H H' : Hp} (a : SameX [] H H') : Same H H' := fun b o h => a b o h (by simp)
theorem SameX.new {ex : List Addr} {H : Hp} {p : Addr} (h : H p = none) (o : HO) : SameX ex H (upd H p o) := fun b u e _ => by rw [upd_ne (ne_of_none e h)]; exact e
theorem SameX.put {ex : List Addr} {H : Hp} {p : Addr} (h : p ∈ ex) (o : HO) : SameX ex H (upd H p o) := fun b u e n => by rw [upd_ne (fun z => n (by rw [z]; exact h))]; exact e
theorem Same.new {H : Hp} {p : Addr} (h : H p = none) (o : HO) : Same H (upd H p o) := fun b u e => by rw [upd_ne (ne_of_none e h)]; exact e
theorem SameX.none {ex : List Addr} {H H' : Hp} (a : SameX ex H H') {p : Addr} (h : H' p = none) (n : p ∉ ex) : H p = none := by
  cases q : H p with
  | none => rfl
  | some o =>
    rw [a p o q n] at h
    cases h
/-- an item of a list by its place -/
theorem atI_get {α : Type} {xs : List α} {i : Int} {v : α} (h0 : 0 ≤ i) (h : xs[i.toNat]? = some v) : atI xs i = some v := by
  have e : i = ((i.toNat : Nat) : Int) := by omega
  rw [e]
  exact atI_nat h

/-! ### names for use -/
theorem len_mkS (l : List Nat) : (mkS l).length = l.length := by simp [Str.length]
end TP
set_option maxRecDepth 100000
set_option maxHeartbeats 4000000
namespace TP
open PySem L2
/-! ### run_of -/
def spRun : Sp := fun vs H Q _ => ∃ (z sg : Str) (n : Nat), vs = [.str z, .int (n : Nat), .str sg] ∧ z.length ≤ sizeLine ∧ Q (.int ((n + (runs (tl sg) ((tl z).drop n)).length : Nat) : Int)) H
section
variable {P : Program} {w : World} {K : PySem.W.Frag} {mg : Str → Option Value} {base : Heap}
theorem scRun : FnScope ["row", "at", "signs"] ["row", "at", "signs"] (defScope sRun) := ⟨rfl, rfl, rfl, by decide +kernel, rfl, by decide +kernel, by decide +kernel⟩
theorem runs_drop {S l : List Nat} {n : Nat} {c : Nat} (h : l[n]? = some c) : runs S (l.drop n) = if c ∈ S then c :: runs S (l.drop (n + 1)) else [] := by
  obtain ⟨hn, e⟩ := List.getElem?_eq_some_iff.mp h
  rw [List.drop_eq_getElem_cons hn, e]
  unfold runs
  rw [List.takeWhile_cons]
  by_cases hc : c ∈ S
  · rw [if_pos hc, if_pos (decide_eq_true hc)]
  · rw [if_neg hc, if_neg (by rw [decide_eq_false hc]; exact Bool.false_ne_true)]
theorem ok_run {f : Addr} {fd : FuncData} (F : Fun K "run_of" "run_of" sRun f fd) (ml : mg "len" = none) : FnOk P w K mg base CX0 1 f fd ["row", "at", "signs"] spRun := by
  refine F.ok scRun (fun vs H Q E h => ?_) (fun cdv A outer s H vs Q E hr h => ?_)
  · obtain ⟨z, sg, n, rfl, _⟩ := h
    rfl
  obtain ⟨z, sg, n, rfl, hz, q⟩ := h
  refine ⟨_, pss_cons (ps_while PassesOwn.never (PW.pt (pw_and (pt_cmpR op_lt (pv 1) (pe_callB call_len_str (by rfl) ml PySem.boot_len (pa_cons (pv 0) pa_nil)) (nomark _)) (pw_and1 (pt_cmpR op_in_sign (pe_ix ix_str (pv 0) (pv 1) (fun _ _ => rfl)) (pv 2) rfl))))
      (pss_one (ps_aug (i := 1) scRun.nd rfl (Or.inl rfl) pe_int ip_add)))
    (pss_one (ps_ret (pv 1))), ?_⟩
  have lz : z.length = (tl z).length := TL.len_tl z
  refine ⟨fun m σ H' => ∃ k : Nat, H' = H ∧ m = z.length - k ∧ σ = [some (.str z), some (.int (k : Nat)), some (.str sg)] ∧ k + (runs (tl sg) ((tl z).drop k)).length = n + (runs (tl sg) ((tl z).drop n)).length, ⟨_, n, rfl, rfl, rfl, rfl⟩, ?_⟩
  rintro m σ H' ⟨k, rfl, rfl, rfl, hk⟩
  refine ⟨_, rfl, _, rfl, _, rfl, hz, _, _, rfl, rfl, _, rfl, ?_⟩
  refine ite2 (fun c => ?_) (fun c => ?_)
  · have c' : ((k : Nat) : Int) < ((z.length : Nat) : Int) := of_decide_eq_true c
    have hlt : k < (tl z).length := by omega
    have hg : (tl z)[k]? = some (tl z)[k] := List.getElem?_eq_getElem hlt
    refine ⟨_, rfl, _, rfl, _, _, _, rfl, rfl, hz, atI_nat hg, _, rfl, _, _, rfl, rfl, _, rfl, ?_⟩
    rw [runs_drop hg] at hk
    refine ite2 (fun c2 => ?_) (fun c2 => ?_)
    · have c3 : (tl z)[k] ∈ tl sg := of_decide_eq_true c2
      rw [if_pos c3, List.length_cons] at hk
      refine ⟨fun σ' H'' => ∃ k' : Nat, k' = k + 1 ∧ H'' = H' ∧ σ' = [some (.str z), some (.int (k' : Nat)), some (.str sg)], ?_, ?_⟩
      · rintro σ' H'' ⟨k', rfl, rfl, rfl⟩
        exact ⟨_, by omega, k + 1, rfl, rfl, rfl, by omega⟩
      · exact ⟨_, rfl, _, _, rfl, rfl, k + 1, rfl, rfl, rfl⟩
    · have c3 : ¬ (tl z)[k] ∈ tl sg := of_decide_eq_false (Bool.eq_false_iff.mpr c2)
      rw [if_neg c3] at hk
      refine ⟨_, rfl, ?_⟩
      have e : k = n + (runs (tl sg) ((tl z).drop n)).length := by simpa using hk
      rw [← e] at q
      exact q
  · have c' : ¬ ((k : Nat) : Int) < ((z.length : Nat) : Int) := of_decide_eq_false (Bool.eq_false_iff.mpr c)
    refine iteF ?_
    refine ⟨_, rfl, ?_⟩
    have e0 : (tl z).drop k = [] := List.drop_eq_nil_of_le (by omega)
    rw [e0] at hk
    have e : k = n + (runs (tl sg) ((tl z).drop n)).length := by simpa [runs] using hk
    rw [← e] at q
    exact q
end
end TP
set_option maxRecDepth 100000
set_option maxHeartbeats 4000000
namespace TP
open PySem PySem.Spec PyProof.Rows L2
section
variable {X : Cx} {e : Expr} {es : List Expr} {ta : TA} {p1 p2 pos : Pos}
/-- C.__init__(self, ..), C an own class over ValueError without own __init__ -/
theorem pe_clsinit {pl : Sem Bool} {x : Str} {C : Addr} {mc : Value} (hg : Gl X x) (hm : X.mg x = some (.ref C)) (r : ClX.CRead X.K C mc) (k : PySem.W.findCls X.K (.ref C) mc "__init__" = some (.val (.builtin "ValueError.__init__"))) (ha : PA X (e :: es) ta)
    (hc : eval (.Call (.Attribute (.Name x p1) "__init__" p2) (e :: es) [] pos) X.env = (do
      let ov ← eval (.Name x p1) X.env
      standAt p2.atName
      let (f, first) ← holding [ov] (getMethod ov "__init__" pl)
      callWith pos f first (backTo pos (starEach (e :: es) X.env)) (backToKw pos (keywordEach [] X.env))) := by rfl)
    (hdb : (x == ("__debug__" : Str)) = false := by decide)
    (he : starEach (e :: es) X.env = (false, eval e X.env) :: starEach es X.env := by rfl) (hpl : (backTo pos (starEach es X.env)).any (·.1) = false := by rfl) :
    PE X (.Call (.Attribute (.Name x p1) "__init__" p2) (e :: es) [] pos) (tVeI X.K ta) := by
  refine ⟨fun pins s σ H Q I h => ?_⟩
  refine PySem.W.methodCall_KW (ld_glob I hg hm ?_ hdb) hc
  refine PySem.W.method_cls I.kIn r.ga (PySem.W.cls_value I.kIn r.rd k (by decide +kernel) ?_)
  show wpAny _ _ (callWith pos (Value.builtin "ValueError.__init__") [] (backTo pos (starEach (e :: es) X.env)) []) _ _ _
  refine PyProof.Rows.callWith_method1 (thn (ha.run pos pins _ σ H _ (I.tok _) h) fun us s1 ⟨vs, H1, I1, r1, a, C, ws, ev, hl, T, ea, q⟩ => ?_) he hpl
  subst ev
  cases r1 with
  | @cons _ u0 _ ur ra rw' =>
    obtain rfl : u0 = Value.ref a := ra
    have hlen : ur.length ≤ sizeLine := by
      rw [← Paired.length rw', sizeLine_eq]
      omega
    exact oinit_ok T I1 ea hlen fun s' J => ⟨.non, H1, J, rfl, q⟩
end

/-! ### BadText.__init__, and what is raised by it -/
def xfs (l c : Int) : List (Str × V) := [("column", .int c), ("line", .int l)]
/-- an own class under BadText -/
structure ExC (K : PySem.W.Frag) (mg : Str → Option Value) (x : Str) (C fB : Addr) : Prop where
  o : OexC K C
  i : PySem.W.findIn K (.ref C) "__init__" = some (some (.ref fB))
  nl : PySem.W.findIn K (.ref C) "line" = some none
  nc : PySem.W.findIn K (.ref C) "column" = some none
  g : mg x = some (.ref C)
def spBad (K : PySem.W.Frag) : Sp := fun vs H Q _ => ∃ (a C : Addr) (l c : Int), vs = [.ref a, .int l, .int c] ∧ OexC K C ∧ PySem.W.findIn K (.ref C) "line" = some none ∧ PySem.W.findIn K (.ref C) "column" = some none ∧ H a = some (exo a C none) ∧
  ∀ d, H d = none → d ≠ a → Q .non (upd (upd (upd H d (exd d [("line", .int l)])) a (exo a C (some d))) d (exd d (xfs l c)))
section
variable {P : Program} {w : World} {K : PySem.W.Frag} {mg : Str → Option Value} {base : Heap}
theorem scBad : FnScope ["self", "line", "column"] ["self", "line", "column"] (defScope sBad) := ⟨rfl, rfl, rfl, by decide +kernel, rfl, by decide +kernel, by decide +kernel⟩
theorem ok_bad {f CT : Addr} {mc : Value} {fd : FuncData} (F : Fun K "__init__" "BadText.__init__" sBad f fd) (gT : mg "TierError" = some (.ref CT)) (r : ClX.CRead K CT mc) (k : PySem.W.findCls K (.ref CT) mc "__init__" = some (.val (.builtin "ValueError.__init__"))) :
    FnOk P w K mg base CX0 1 f fd ["self", "line", "column"] (spBad K) := by
  refine F.ok scBad (fun vs H Q E h => ?_) (fun cdv A outer s H vs Q E hr h => ?_)
  · obtain ⟨a, C, l, c, rfl, _⟩ := h
    rfl
  obtain ⟨a, C, l, c, rfl, T, nl, nc, ha, q⟩ := h
  refine ⟨_, pss_cons (ps_expr (pe_clsinit rfl gT r k (pa_cons (pv 0) (pa_cons pe_str pa_nil))))
    (pss_cons (ps_ost (pv 0) (pv 1)) (pss_one (ps_ost (pv 0) (pv 2)))), ?_⟩
  refine ⟨_, rfl, a, C, _, rfl, by simp, T, ha, ?_⟩
  refine ⟨_, rfl, _, rfl, a, C, rfl, T, nl, .inl ⟨ha, fun d hd hda => ?_⟩⟩
  refine ⟨_, rfl, _, rfl, a, C, rfl, T, nc, .inr ⟨d, _, upd_same, by rw [upd_ne hda, upd_same], by show 1 ≤ 900; decide, ?_⟩⟩
  exact q d hd hda
/-- what stands behind raise C(l, c) -/
theorem raise_go {C : Addr} {H : Hp} {l c : Int} {Q : XK} (T : OexC K C) (nl : PySem.W.findIn K (.ref C) "line" = some none) (nc : PySem.W.findIn K (.ref C) "column" = some none)
    (h : ∀ d H', Same H H' → H d = none → H' d = some (.xd (xfs l c)) → Q (.ref C) (some d) H') :
    ∀ a, H a = none → spBad K (.ref a :: ([.int l, .int c] ++ [])) (upd H a (exo a C none))
      (fun v H2 => v = .non ∧ ∃ (d : Addr) (fs : List (Str × V)), H2 a = some (exo a C (some d)) ∧ H2 d = some (exd d fs) ∧ H d = none ∧ Q (.ref C) (some d) (upd (del H2 a) d (.xd fs))) (fun _ _ _ => False) := by
  intro a ha
  refine ⟨a, C, l, c, rfl, T, nl, nc, upd_same, fun d hd hda => ⟨rfl, d, xfs l c, ?_, upd_same, ?_, ?_⟩⟩
  · rw [upd_ne (Ne.symm hda), upd_same]
  · rw [upd_ne hda] at hd
    exact hd
  · rw [upd_ne hda] at hd
    refine h d _ (fun b o e => ?_) hd upd_same
    have nbd : b ≠ d := ne_of_none e hd
    have nba : b ≠ a := ne_of_none e ha
    rw [upd_ne nbd, del_ne nba, upd_ne nbd, upd_ne nba, upd_ne nbd, upd_ne nba]
    exact e
end
end TP
set_option maxRecDepth 100000
set_option maxHeartbeats 4000000
namespace L2
open PySem PySem.Spec PyProof.Rows
section
variable {P : Program} {w : World} {K : PySem.W.Frag} {mg : Str → Option Value} {base : Heap}
/-- a def that may raise, the exception's context kept -/
theorem Fun.okXN {x qual : Str} {st : Stmt} {f : Addr} {fd : FuncData} {N ps : List Str} {k : Nat} {sp : Sp} (F : Fun K x qual st f fd) (S : FnScope N ps (defScope st)) (len : ∀ vs H Q E, sp vs H Q E → vs.length = ps.length)
    (hbody : ∀ (cdv : Value) (A : Around) (outer : List Env) (s : Shared) (H : Hp) (vs : List V) (Q : VK) (E : XK), Room k (A.deeper (envOfC qual (defScope st) s.heap.objs.size f cdv)) → sp vs H Q E →
      ∃ t, PSs (cxOf (L2N.CX P w) P w K mg base N qual (defScope st) f cdv A outer s H E) (defBody st) t ∧ t { nx := fun _ H' => Q .non H', rt := Q } (start N vs) H) : FnOk P w K mg base (L2N.CX P w) (k + 1) f fd ps sp := by
  obtain ⟨oc, od, kV, doc, pm, an, cdv, ct, osl, rfl, lk, hcd⟩ := F.ex
  exact fn_of lk hcd S len fun A outer s H vs Q E hr hsp => hbody cdv A outer s H vs Q E hr hsp
end
section
variable {X : Cx} {e : Expr} {es : List Expr} {ta : TA} {p pos : Pos}
/-- C(..), what is made has no context -/
theorem pmk_oexN {CX : CXT} {x : Str} {C fI : Addr} {k : Nat} {fd : FuncData} {ps : List Str} {sp : Sp} {ds : List Value} {dvs : List V} (T : OexC X.K C) (iC : PySem.W.findIn X.K (.ref C) "__init__" = some (some (.ref fI))) (tI : PySem.W.typeIn X.K (.ref fI) = some (.type "function"))
    (F1 : FnOk X.prog X.w X.K X.mg X.base CX k fI fd ps sp) (hr : Room (k + 1) X.A) (hb : Binds X.K fd ps ds) (hd : Vals dvs ds) (hx : Passes CX X (fun _ _ _ => False)) (hg : Gl X x) (hm : X.mg x = some (.ref C)) (ha : PA X (e :: es) ta)
    (hdb : (x == ("__debug__" : Str)) = false := by decide) (he : starEach (e :: es) X.env = (false, eval e X.env) :: starEach es X.env := by rfl) (hpl : (backTo pos (starEach es X.env)).any (·.1) = false := by rfl) :
    L2N.PMk X (.Call (.Name x p) (e :: es) [] pos) (tMkO C sp dvs ta) := by
  intro pins s σ H Q I h
  obtain ⟨nm, q, N, bs, bm, sn, sub, ab, col, dd, k0, k1, k2, k3, k5, hC, hbm⟩ := T.cls
  refine wpAny_Call_Name_kw (ld_glob I hg hm ?_ hdb)
  refine PySem.W.callWith_K (h₀ := X.base) I.ok.mod.kin T.kC (thn (ha.run pos pins s σ H _ I h) fun us s1 ⟨vs, H1, I1, r1, hz, q1⟩ => ⟨I1.kIn, ?_⟩) he hpl
  show wpAny _ _ (call (.ref C) us) _ _ _
  obtain ⟨hp, g, dr, tk, os⟩ := s1
  have hsz : hp.objs.size ≤ hp.objs.size + 1 := Nat.le_succ _
  have hq := q1 (hp.objs.size + 1) (I1.hok.fresh hsz)
  have kk : ∀ b o, hp.get? b = some o → ((hp.push (PySem.W.kdv_tup us)).push (PySem.HandSPX.excO C hp.objs.size)).get? b = some o := fun b o e => Heap.get?_push_of_some _ (Heap.get?_push_of_some _ e)
  have hget : ((hp.push (PySem.W.kdv_tup us)).push (PySem.HandSPX.excO C hp.objs.size)).get? (hp.objs.size + 1) = some (PySem.HandSPX.excO C hp.objs.size) := by heap_get
  have I2 : Inv X pins σ (upd H1 (hp.objs.size + 1) (exo (hp.objs.size + 1) C none)) ⟨(hp.push (PySem.W.kdv_tup us)).push (PySem.HandSPX.excO C hp.objs.size), g, dr, tk, os⟩ :=
    I1.laid (t' := tk) (a := hp.objs.size + 1) (o := exo (hp.objs.size + 1) C none) (h' := (hp.push (PySem.W.kdv_tup us)).push (PySem.HandSPX.excO C hp.objs.size)) kk hsz (exo_ok hget)
  have r2 : Vals (V.ref (hp.objs.size + 1) :: (vs ++ dvs)) (Value.ref (hp.objs.size + 1) :: (us ++ ds)) := .cons rfl (r1.append hd)
  have hl : (Value.ref (hp.objs.size + 1) :: us ++ ds).length = ps.length := by
    have e := r2.length
    rw [F1.len _ _ _ _ hq] at e
    exact e.symm
  have hus : us.length ≤ sizeLine := by
    rw [← Paired.length r1, sizeLine_eq]
    omega
  refine wpAny_call (PySem.HandSPX.call_own F.excBase_ValueError (fun Y => PySem.HandSPX.refsVE_contains Y bm hbm) (I1.kIn _ _ hC) (PySem.W.looks_findIn I1.kIn iC) (fun self => PySem.W.bind_fn I1.kIn self tI) hus
    (codeAny_mono (F1.run _ X.stack _ _ ⟨Value.ref (hp.objs.size + 1) :: us, []⟩ (Value.ref (hp.objs.size + 1) :: (us ++ ds)) _ _ (fun _ _ _ => False) (hr.make C us []) (I2.env0.make C us []) (hb _ (Value.ref (hp.objs.size + 1) :: us) I2.kIn hl) r2 hq) fun r s' hq' => ?_))
  cases r with
  | error er => exact hx pins σ _ _ er s' I2 hq'
  | ok fl =>
    cases fl with
    | ret u =>
      obtain ⟨v, H2, os2, bare2, un2, hok2, rv, ev, d, fs, ea, ed, hd1, q2⟩ := hq'
      subst ev
      obtain ⟨h2, g2, d2, t2, os'⟩ := s'
      obtain ⟨t0, G, J, kG, ge, hoe, na⟩ := mk_end0 (d2 := d2) (t2 := t2) I1 hsz kk un2 hok2 os2 bare2 ea ed hd1
      refine ⟨rv, hp.objs.size + 1, _, _, ⟨G, g2, d2, t2, os'⟩, _, .ref C, some d, rfl, J, kG, ge, hoe, ⟨rfl, rfl, fun vs hv => ?_⟩, rfl, rfl, na, rfl, bare2, raises_own T.exC T.tyC, q2⟩
      cases hv
      rfl
    | next => exact False.elim hq'
    | brk => exact False.elim hq'
    | cont => exact False.elim hq'
end
end L2
set_option maxRecDepth 100000
set_option maxHeartbeats 4000000
namespace TP
open PySem L2
def letS : Str := "abcdefghijklmnopqrstuvwxyz"
def figS : Str := "0123456789"
theorem letS_tl : tl letS = LT := by decide +kernel
theorem figS_tl : tl figS = FG := by decide +kernel
/-- the module's constants -/
structure Consts (K : PySem.W.Frag) (mg : Str → Option Value) (pK pS : Addr) : Prop where
  lt : ∃ t, mg "LETTERS" = some (.str letS t)
  fg : ∃ t, mg "FIGURES" = some (.str figS t)
  ky : mg "KEYS" = some (.ref pK)
  kyT : ∀ H : Hp, SqT K H pK (keysS.map V.str)
  sg : mg "SIGNS" = some (.ref pS)
  sgT : ∀ H : Hp, SqT K H pS (signsS.map V.str)
  len : mg "len" = none
/-! ### slices -/
theorem tl_cut2 (z : Str) (a b : Nat) : tl (cutS z (some (a : Int)) (some (b : Int))) = ((tl z).drop a).take (b - a) := by
  show ((tl z).drop (HT.sIx z.length 0 (some (a : Int)))).take (HT.sIx z.length z.length (some (b : Int)) - HT.sIx z.length 0 (some (a : Int))) = _
  have hz : z.length = (tl z).length := TL.len_tl z
  rw [HT.sIx_nat, HT.sIx_nat, hz]
  by_cases h : a ≤ (tl z).length
  · rw [Nat.min_eq_left h]
    by_cases h2 : b ≤ (tl z).length
    · rw [Nat.min_eq_left h2]
    · rw [Nat.min_eq_right (by omega), List.take_of_length_le (by rw [List.length_drop]; omega), List.take_of_length_le (by rw [List.length_drop]; omega)]
  · rw [Nat.min_eq_right (show (tl z).length ≤ a by omega), List.drop_eq_nil_of_le (Nat.le_refl _), List.drop_eq_nil_of_le (show (tl z).length ≤ a by omega)]
    simp
theorem runs_take (S cs : List Nat) : cs.take (runs S cs).length = runs S cs := by
  unfold runs
  induction cs with
  | nil => rfl
  | cons c r ih =>
    rw [List.takeWhile_cons]
    split
    · rw [List.length_cons, List.take_succ_cons, ih]
    · rfl
theorem cut_runs {z : Str} {n : Nat} {S : List Nat} : cutS z (some (n : Int)) (some ((n + (runs S ((tl z).drop n)).length : Nat) : Int)) = mkS (runs S ((tl z).drop n)) := by
  refine TL.ext_tl ?_
  show tl _ = runs S ((tl z).drop n)
  rw [tl_cut2, Nat.add_sub_cancel_left, runs_take]
theorem str_in {x : Str} {xs : List Str} : inV (.str x) (xs.map V.str) = decide (x ∈ xs) := by
  unfold inV
  induction xs with
  | nil => rfl
  | cons y r ih =>
    rw [List.map_cons, List.any_cons, ih]
    show ((y == x) || decide (x ∈ r)) = _
    by_cases h : y = x
    · subst h
      simp
    · have h2 : ¬ x = y := fun z => h z.symm
      simp [h, h2]
theorem flat_strs (xs : List Str) : (xs.map V.str).all flatV = true := by
  induction xs with
  | nil => rfl
  | cons y r ih => rw [List.map_cons, List.all_cons, ih]; rfl
theorem mkS_ne {l : List Nat} : (mkS l = ("" : Str)) ↔ l = [] := by
  constructor
  · intro h
    have h2 : tl (mkS l) = tl ("" : Str) := by rw [h]
    have e : tl ("" : Str) = [] := by decide +kernel
    rw [e] at h2
    exact h2
  · intro h
    subst h
    rfl

/-! ### mark_at -/
def mkV (k : Str) (w : List Nat) (l : Int) (n : Nat) : List V := [.str k, .str (mkS w), .int l, .int (n : Int)]
def spMarkAt (CN : Addr) : Sp := fun vs H Q E => ∃ (z : Str) (n : Nat) (l : Int), vs = [.str z, .int (n : Int), .int l] ∧ z.length ≤ sizeLine ∧
  (∀ k w, tok ((tl z).drop n) = some (k, w) → ∀ p, H p = none → Q (.ref p) (upd H p (.tup (mkV k w l n)))) ∧
  (tok ((tl z).drop n) = none → ∀ d H', Same H H' → H d = none → H' d = some (.xd (xfs l n)) → E (.ref CN) (some d) H')
section
variable {P : Program} {w : World} {K : PySem.W.Frag} {mg : Str → Option Value} {base : Heap}
theorem scMarkAt : FnScope ["row", "at", "line", "word", "sign"] ["row", "at", "line"] (defScope sMarkAt) := ⟨rfl, rfl, rfl, by decide +kernel, rfl, by decide +kernel, by decide +kernel⟩
theorem ok_markAt {f fR CN fB pK pS : Addr} {fd fdR fdB : FuncData} (F : Fun K "mark_at" "mark_at" sMarkAt f fd) (DR : Df K mg "run_of" sRun fR fdR ["row", "at", "signs"]) (C : Consts K mg pK pS)
    (T : ExC K mg "NoMark" CN fB) (FB : FnOk P w K mg base CX0 1 fB fdB ["self", "line", "column"] (spBad K)) (bB : Binds K fdB ["self", "line", "column"] []) (tB : PySem.W.typeIn K (.ref fB) = some (.type "function")) :
    FnOk P w K mg base (L2N.CX P w) 3 f fd ["row", "at", "line"] (spMarkAt CN) := by
  have GR : FnOk P w K mg base CX0 1 fR fdR ["row", "at", "signs"] spRun := ok_run DR.F C.len
  obtain ⟨tL, gL⟩ := C.lt
  obtain ⟨tF, gF⟩ := C.fg
  refine F.okXN scMarkAt (fun vs H Q E h => ?_) (fun cdv A outer s H vs Q E hr h => ?_)
  · obtain ⟨z, n, l, rfl, _⟩ := h
    rfl
  obtain ⟨z, n, l, rfl, hz, q1, q2⟩ := h
  have hr1 : Room 1 _ := hr.mono (by decide)
  refine ⟨_, pss_cons (ps_set (i := 3) scMarkAt.nd rfl (Or.inl rfl) (pe_slice sl_str (pv 0) (po_some (pv 1)) (po_some (pe_call GR hr1 rfl DR.g DR.F.kp DR.b .nil pass0 (pa_cons (pv 0) (pa_cons (pv 1) (pa_cons (pe_glob (v := .str letS) rfl gL ⟨_, rfl⟩) pa_nil)))))))
    (pss_cons (ps_if (pt_cmpR op_ne (pv 3) pe_str (nomark _))
      (pss_cons (ps_if (pt_cmpR op_gt (pe_callB call_len_str (by rfl) C.len PySem.boot_len (pa_cons (pv 3) pa_nil)) pe_int (nomark _))
          (pss_one (L2N.ps_raise rfl (L2N.takes_of rfl rfl rfl rfl) (pmk_oexN T.o T.i tB FB hr bB .nil pass0 rfl T.g (pa_cons (pv 2) (pa_cons (pv 1) pa_nil))))) pss_nil)
        (pss_one (ps_ret (pe_tup (pa_cons (pe_ifExp (pt_cmpR op_in_seq (pv 3) (pe_glob (v := .ref pK) rfl C.ky rfl) (by rfl)) pe_str pe_str) (pa_cons (pv 3) (pa_cons (pv 2) (pa_cons (pv 1) pa_nil)))))))) pss_nil)
    (pss_cons (ps_set (i := 3) scMarkAt.nd rfl (Or.inl rfl) (pe_slice sl_str (pv 0) (po_some (pv 1)) (po_some (pe_call GR hr1 rfl DR.g DR.F.kp DR.b .nil pass0 (pa_cons (pv 0) (pa_cons (pv 1) (pa_cons (pe_glob (v := .str figS) rfl gF ⟨_, rfl⟩) pa_nil)))))))
    (pss_cons (ps_if (pt_cmpR op_ne (pv 3) pe_str (nomark _))
      (pss_cons (ps_if (PW.pt (pw_or (pt_cmpR op_gt (pe_callB call_len_str (by rfl) C.len PySem.boot_len (pa_cons (pv 3) pa_nil)) pe_int (nomark _))
            (pw_or1 (PW.pt (pw_and (pt_cmpR op_gt (pe_callB call_len_str (by rfl) C.len PySem.boot_len (pa_cons (pv 3) pa_nil)) pe_int (nomark _)) (pw_and1 (pt_cmpR op_eq (pe_ix ix_str (pv 3) pe_int (fun _ _ => rfl)) pe_str (nomark _))))))))
          (pss_one (L2N.ps_raise rfl (L2N.takes_of rfl rfl rfl rfl) (pmk_oexN T.o T.i tB FB hr bB .nil pass0 rfl T.g (pa_cons (pv 2) (pa_cons (pv 1) pa_nil))))) pss_nil)
        (pss_one (ps_ret (pe_tup (pa_cons pe_str (pa_cons (pv 3) (pa_cons (pv 2) (pa_cons (pv 1) pa_nil)))))))) pss_nil)
    (pss_cons (ps_for (passes_of rfl) rfl (pi_tup (pe_glob (v := .ref pS) rfl C.sg rfl)) (pg_name (i := 4) scMarkAt.nd rfl (Or.inl rfl))
      (pss_one (ps_if (pt_cmpR op_eq (pe_slice sl_str (pv 0) (po_some (pv 1)) (po_some (pe_op op_add (pv 1) (pe_callB call_len_str (by rfl) C.len PySem.boot_len (pa_cons (pv 4) pa_nil))))) (pv 4) (nomark _))
        (pss_one (ps_ret (pe_tup (pa_cons pe_str (pa_cons (pv 4) (pa_cons (pv 2) (pa_cons (pv 1) pa_nil))))))) pss_nil)))
    (pss_one (L2N.ps_raise rfl (L2N.takes_of rfl rfl rfl rfl) (pmk_oexN T.o T.i tB FB hr bB .nil pass0 rfl T.g (pa_cons (pv 2) (pa_cons (pv 1) pa_nil))))))))), ?_⟩
  have bad : ∀ {σ2 : St}, tok ((tl z).drop n) = none → ∀ a, H a = none → spBad K (.ref a :: ([.int l, .int (n : Int)] ++ [])) (upd H a (exo a CN none))
      (fun v H2 => v = .non ∧ ∃ (d : Addr) (fs : List (Str × V)), H2 a = some (exo a CN (some d)) ∧ H2 d = some (exd d fs) ∧ H d = none ∧ E (.ref CN) (some d) (upd (del H2 a) d (.xd fs))) (fun _ _ _ => False) := fun ht =>
    raise_go T.o T.nl T.nc fun d H' g1 g2 g3 => q2 ht d H' g1 g2 g3
  generalize hcs : (tl z).drop n = cs at q1 q2 bad
  refine ⟨_, rfl, _, rfl, _, rfl, _, rfl, _, rfl, z, letS, n, rfl, hz, _, rfl, z, rfl, hz, ?_⟩
  rw [letS_tl, cut_runs, hcs]
  refine ⟨_, rfl, rfl, _, rfl, ?_⟩
  by_cases h1 : runs LT cs = []
  · have e1 : (!decide (V.str (mkS (runs LT cs)) = V.str ("" : Str))) = false := by rw [mkS_ne.mpr h1]; decide +kernel
    rw [e1]
    refine iteF ?_
    refine ⟨_, rfl, _, rfl, _, rfl, _, rfl, _, rfl, z, figS, n, rfl, hz, _, rfl, z, rfl, hz, ?_⟩
    rw [figS_tl, cut_runs, hcs]
    refine ⟨_, rfl, rfl, _, rfl, ?_⟩
    by_cases h2 : runs FG cs = []
    · have e2 : (!decide (V.str (mkS (runs FG cs)) = V.str ("" : Str))) = false := by rw [mkS_ne.mpr h2]; decide +kernel
      rw [e2]
      refine iteF ?_
      have et : tok cs = (signsL.find? fun s => decide (cs.take s.length = s)).map fun s => (("sign" : Str), s) := by
        unfold tok
        rw [if_neg (fun z => z h1), if_neg (fun z => z h2)]
      rw [et] at q1 q2 bad
      refine ⟨pS, rfl, ⟨_, C.sgT _⟩, for_tup (K := K) (a := pS) (xs := signsS.map V.str) (fun i σ H' => H' = H ∧ (∃ v, σ = [some (.str z), some (.int (n : Int)), some (.int l), some (.str (mkS (runs FG cs))), v]) ∧ signsL.find? (fun s => decide (cs.take s.length = s)) = (signsL.drop i).find? (fun s => decide (cs.take s.length = s)))
        ⟨rfl, ⟨_, rfl⟩, rfl⟩ (fun i σ H' _ h => C.sgT _) ?_ ?_⟩
      · rintro i x σ H' hi ⟨rfl, ⟨v, rfl⟩, hf⟩
        obtain ⟨y, hy, rfl⟩ : ∃ y, signsS[i]? = some y ∧ x = V.str y := by
          rw [List.getElem?_map] at hi
          cases e : signsS[i]? with
          | none => rw [e] at hi; cases hi
          | some y => rw [e] at hi; exact ⟨y, rfl, (Option.some.inj hi).symm⟩
        have hL : signsL[i]? = some (tl y) := by rw [← signsS_tl, List.getElem?_map, hy]; rfl
        obtain ⟨hlt, eL⟩ := List.getElem?_eq_some_iff.mp hL
        rw [List.drop_eq_getElem_cons hlt, eL, List.find?_cons] at hf
        have hy2 : y.length ≤ sizeLine := by
          have : ∀ y ∈ signsS, y.length ≤ sizeLine := by decide +kernel
          exact this y (List.mem_of_getElem? hy)
        have ely : y.length = (tl y).length := TL.len_tl y
        refine ⟨_, rfl, _, rfl, _, rfl, _, rfl, _, rfl, y, rfl, hy2, _, _, rfl, rfl, _, rfl, z, rfl, hz, _, rfl, rfl, _, rfl, ?_⟩
        have ec : cutS z (some (n : Int)) (some ((n : Int) + ((y.length : Nat) : Int))) = mkS (cs.take (tl y).length) := by
          refine TL.ext_tl ?_
          have e0 : (n : Int) + ((y.length : Nat) : Int) = ((n + y.length : Nat) : Int) := by omega
          rw [e0]
          show tl _ = cs.take (tl y).length
          rw [tl_cut2, Nat.add_sub_cancel_left, hcs, ely]
        rw [ec]
        have ed : decide (V.str (mkS (cs.take (tl y).length)) = V.str y) = decide (cs.take (tl y).length = tl y) := by
          congr 1
          apply propext
          constructor
          · intro hh
            injection hh with hh
            exact congrArg tl hh
          · intro hh
            rw [hh]
        show (if decide (V.str (mkS (cs.take (tl y).length)) = V.str y) = true then _ else _)
        rw [ed]
        refine ite2 (fun c => ?_) (fun c => ?_)
        · rw [c] at hf
          have q := q1 "sign" (tl y) (by rw [hf]; rfl)
          refine ⟨_, rfl, _, rfl, _, rfl, by show 4 ≤ sizeLine; decide, fun p hp => ?_⟩
          have := q p hp
          unfold mkV at this
          rw [show mkS (tl y) = y from TL.mk_tl y] at this
          exact this
        · have c' : decide (cs.take (tl y).length = tl y) = false := Bool.eq_false_iff.mpr c
          rw [c'] at hf
          exact ⟨rfl, ⟨_, rfl⟩, hf⟩
      · rintro σ H' ⟨rfl, ⟨v, rfl⟩, hf⟩
        rw [show (signsS.map V.str).length = signsL.length by decide +kernel, List.drop_length] at hf
        refine ⟨_, rfl, _, rfl, by simp, ?_⟩
        exact bad (σ2 := []) (by rw [hf]; rfl)
    · have e2 : (!decide (V.str (mkS (runs FG cs)) = V.str ("" : Str))) = true := by
        rw [decide_eq_false (fun hh => h2 (mkS_ne.mp (by injection hh)))]
        rfl
      rw [e2]
      refine iteT ?_
      have hlen : (mkS (runs FG cs)).length ≤ sizeLine := by
        rw [len_mkS]
        have a1 : (runs FG cs).length ≤ cs.length := runs_le
        have a2 : cs.length ≤ (tl z).length := by rw [← hcs, List.length_drop]; omega
        have a3 : z.length = (tl z).length := TL.len_tl z
        omega
      have et : tok cs = if (runs FG cs).length > 9 ∨ ((runs FG cs).length > 1 ∧ (runs FG cs).head? = some 48) then none else some (("number" : Str), runs FG cs) := by
        unfold tok
        rw [if_neg (fun z => z h1), if_pos h2]
      have fine : ∀ {σ2 : St}, ¬ ((runs FG cs).length > 9 ∨ ((runs FG cs).length > 1 ∧ (runs FG cs).head? = some 48)) → ∀ p, H p = none → Q (.ref p) (upd H p (.tup [.str "number", .str (mkS (runs FG cs)), .int l, .int (n : Int)])) := fun hn p hp =>
        q1 "number" (runs FG cs) (by rw [et, if_neg hn]) p hp
      refine ⟨_, rfl, _, rfl, hlen, _, _, rfl, rfl, _, rfl, ?_⟩
      rw [len_mkS]
      refine ite2 (fun c => ?_) (fun c => ?_)
      · have c' : ((9 : Int) < (((runs FG cs).length : Nat) : Int)) := of_decide_eq_true c
        refine ⟨_, rfl, _, rfl, by simp, ?_⟩
        exact bad (σ2 := []) (by rw [et, if_pos (.inl (by omega))])
      · have c' : ¬ ((9 : Int) < (((runs FG cs).length : Nat) : Int)) := of_decide_eq_false (Bool.eq_false_iff.mpr c)
        refine ⟨_, rfl, _, rfl, hlen, _, _, rfl, rfl, _, rfl, ?_⟩
        rw [len_mkS]
        refine ite2 (fun c2 => ?_) (fun c2 => ?_)
        · have c2' : ((1 : Int) < (((runs FG cs).length : Nat) : Int)) := of_decide_eq_true c2
          obtain ⟨d, hd⟩ : ∃ d, (runs FG cs).head? = some d := by
            cases e : runs FG cs with
            | nil => exact absurd e h2
            | cons d r => exact ⟨d, rfl⟩
          have hd0 : (tl (mkS (runs FG cs)))[0]? = some d := by rw [tl_mkS, ← List.head?_eq_getElem?]; exact hd
          refine ⟨_, rfl, _, _, d, rfl, rfl, hlen, atI_nat hd0, rfl, _, rfl, ?_⟩
          have ed : decide (V.str ⟨#[d]⟩ = V.str ("0" : Str)) = decide (d = 48) := by
            congr 1
            apply propext
            constructor
            · intro hh
              injection hh with hh
              have h5 : tl ⟨#[d]⟩ = tl ("0" : Str) := by rw [hh]
              have e3 : tl ("0" : Str) = [48] := by decide +kernel
              rw [e3] at h5
              have h6 : [d] = [48] := h5
              injection h6
            · intro hh
              subst hh
              decide +kernel
          show (if decide (V.str ⟨#[d]⟩ = V.str ("0" : Str)) = true then _ else _)
          rw [ed]
          refine ite2 (fun c3 => ?_) (fun c3 => ?_)
          · have c3' : d = 48 := of_decide_eq_true c3
            refine ⟨_, rfl, _, rfl, by simp, ?_⟩
            exact bad (σ2 := []) (by rw [et, if_pos (.inr ⟨by omega, by rw [hd, c3']⟩)])
          · have c3' : ¬ d = 48 := of_decide_eq_false (Bool.eq_false_iff.mpr c3)
            refine ⟨_, rfl, _, rfl, _, rfl, by show 4 ≤ sizeLine; decide, fine (σ2 := []) ?_⟩
            rintro (h3 | ⟨_, h4⟩)
            · omega
            · rw [hd] at h4
              exact c3' (Option.some.inj h4)
        · have c2' : ¬ ((1 : Int) < (((runs FG cs).length : Nat) : Int)) := of_decide_eq_false (Bool.eq_false_iff.mpr c2)
          refine iteF ?_
          refine ⟨_, rfl, _, rfl, _, rfl, by show 4 ≤ sizeLine; decide, fine (σ2 := []) ?_⟩
          rintro (h3 | ⟨h4, _⟩)
          · omega
          · omega
  · have e1 : (!decide (V.str (mkS (runs LT cs)) = V.str ("" : Str))) = true := by
      rw [decide_eq_false (fun hh => h1 (mkS_ne.mp (by injection hh)))]
      rfl
    rw [e1]
    refine iteT ?_
    have hlen : (mkS (runs LT cs)).length ≤ sizeLine := by
      rw [len_mkS]
      have a1 : (runs LT cs).length ≤ cs.length := runs_le
      have a2 : cs.length ≤ (tl z).length := by rw [← hcs, List.length_drop]; omega
      have a3 : z.length = (tl z).length := TL.len_tl z
      omega
    have et : tok cs = if (runs LT cs).length > 8 then none else some ((if mkS (runs LT cs) ∈ keysS then ("key" : Str) else ("name" : Str)), runs LT cs) := by
      unfold tok
      rw [if_pos h1]
    refine ⟨_, rfl, _, rfl, hlen, _, _, rfl, rfl, _, rfl, ?_⟩
    rw [len_mkS]
    refine ite2 (fun c => ?_) (fun c => ?_)
    · have c' : ((8 : Int) < (((runs LT cs).length : Nat) : Int)) := of_decide_eq_true c
      refine ⟨_, rfl, _, rfl, by simp, ?_⟩
      exact bad (σ2 := []) (by rw [et, if_pos (by omega)])
    · have c' : ¬ ((8 : Int) < (((runs LT cs).length : Nat) : Int)) := of_decide_eq_false (Bool.eq_false_iff.mpr c)
      have q := q1 _ _ (by rw [et, if_neg (by omega)])
      refine ⟨_, rfl, pK, _, rfl, .inr (C.kyT _), rfl, flat_strs _, _, rfl, ?_⟩
      rw [str_in]
      by_cases hk : mkS (runs LT cs) ∈ keysS
      · rw [if_pos hk] at q
        rw [decide_eq_true hk]
        refine iteT ?_
        exact ⟨_, rfl, _, rfl, _, rfl, by show 4 ≤ sizeLine; decide, q⟩
      · rw [if_neg hk] at q
        rw [decide_eq_false hk]
        refine iteF ?_
        exact ⟨_, rfl, _, rfl, _, rfl, by show 4 ≤ sizeLine; decide, q⟩
end
end TP
set_option maxRecDepth 100000
set_option maxHeartbeats 4000000
namespace TP
open PySem L2
/-! ### lists of marks -/
def MkAt (H : Hp) (a : Addr) (m : Mrk) : Prop := H a = some (.tup m.v)
abbrev MksAt (H : Hp) (as : List Addr) (ms : List Mrk) : Prop := Paired (MkAt H) as ms
theorem pair_app {α β : Type} {F : α → β → Prop} : ∀ {xs ys : List α} {us ws : List β}, Paired F xs us → Paired F ys ws → Paired F (xs ++ ys) (us ++ ws)
  | _, _, _, _, .nil, s => s
  | _, _, _, _, .cons r t, s => .cons r (pair_app t s)
theorem pair_get {α β : Type} {F : α → β → Prop} : ∀ {xs : List α} {us : List β} {i : Nat} {x : α}, Paired F xs us → xs[i]? = some x → ∃ u, us[i]? = some u ∧ F x u
  | _, _, _, _, .nil, e => by simp at e
  | _, _, 0, _, .cons r _, e => by simp at e; subst e; exact ⟨_, rfl, r⟩
  | _, _, i + 1, x, .cons _ t, e => by
    obtain ⟨u, h1, h2⟩ := pair_get (i := i) (x := x) t (by simpa using e)
    exact ⟨u, by simpa using h1, h2⟩
theorem MksAt.same {H H' : Hp} {as : List Addr} {ms : List Mrk} (h : MksAt H as ms) (s : ∀ b xs, H b = some (.tup xs) → H' b = some (.tup xs)) : MksAt H' as ms := Paired.mapP h fun a m q => s a _ q
theorem sign_eq {c d : Nat} {s : Str} (hs : tl s = [d]) : decide (V.str ⟨#[c]⟩ = V.str s) = decide (c = d) := by
  congr 1
  apply propext
  constructor
  · intro hh
    injection hh with hh
    have h5 : tl ⟨#[c]⟩ = tl s := by rw [hh]
    rw [hs] at h5
    have h6 : [c] = [d] := h5
    injection h6
  · intro hh
    subst hh
    congr 1
    exact TL.ext_tl hs.symm
theorem rows_len : ∀ (t acc : List Nat), ((TL.spl [10] 0 acc t).map List.length).sum ≤ acc.length + t.length
  | [], acc => by rw [TL.spl_nil]; simp
  | c :: cs, acc => by
    rw [spl_cons]
    split
    · have := rows_len cs []
      simp only [List.map_cons, List.sum_cons, List.length_cons, List.length_nil] at this ⊢
      omega
    · have := rows_len cs (acc ++ [c])
      simp only [List.length_append, List.length_cons, List.length_nil] at this ⊢
      omega
theorem split_rows (z : Str) : (Txt.split z "\n").map tl = rowsT (tl z) := by
  have e : tl ("\n" : Str) = [10] := by decide +kernel
  have h := TL.split_spl z "\n" (by show tl ("\n" : Str) ≠ []; rw [e]; simp) (TL.kind_ok (by decide +kernel))
  have h2 : (Txt.split z "\n").map tl = TL.spl (tl ("\n" : Str)) 0 [] (tl z) := h
  rw [e] at h2
  exact h2

/-! ### marks -/
def spMarks (CN : Addr) : Sp := fun vs H Q E => ∃ z : Str, vs = [.str z] ∧ z.length + 2 ≤ sizeLine ∧
  (∀ ms, marksF (tl z) = some ms → ms.length ≤ z.length → ∀ (p : Addr) (as : List Addr) (H' : Hp), Same H H' → H p = none → H' p = some (.lst (as.map V.ref)) → MksAt H' as ms → Q (.ref p) H') ∧
  (marksF (tl z) = none → ∀ (d : Addr) (H' : Hp) (l c : Int), Same H H' → H d = none → H' d = some (.xd (xfs l c)) → E (.ref CN) (some d) H')
section
variable {P : Program} {w : World} {K : PySem.W.Frag} {mg : Str → Option Value} {base : Heap}
theorem scMarks : FnScope ["text", "found", "line", "row", "at", "mark"] ["text"] (defScope sMarks) := ⟨rfl, rfl, rfl, by decide +kernel, rfl, by decide +kernel, by decide +kernel⟩
theorem ok_marks {f fA CN : Addr} {fd fdA : FuncData} (F : Fun K "marks" "marks" sMarks f fd) (DA : Df K mg "mark_at" sMarkAt fA fdA ["row", "at", "line"]) (GA : FnOk P w K mg base (L2N.CX P w) 3 fA fdA ["row", "at", "line"] (spMarkAt CN))
    (ml : mg "len" = none) (me : mg "enumerate" = none) : FnOk P w K mg base (L2N.CX P w) 4 f fd ["text"] (spMarks CN) := by
  refine F.okXN scMarks (fun vs H Q E h => ?_) (fun cdv A outer s H vs Q E hr h => ?_)
  · obtain ⟨z, rfl, _⟩ := h
    rfl
  obtain ⟨z, rfl, hz, q1, q2⟩ := h
  refine ⟨_, pss_cons (ps_set (i := 1) scMarks.nd rfl (Or.inl rfl) (pe_lst pa_nil))
    (pss_cons (ps_for (passes_of rfl) rfl (pi_enum rfl me (pa_cons (pe_split (pv 0) pe_str) pa_nil)) (pg_tup rfl (pgs_cons (pg_name (i := 2) scMarks.nd rfl (Or.inl rfl)) (pgs_cons (pg_name (i := 3) scMarks.nd rfl (Or.inl rfl)) pgs_nil)))
      (pss_cons (ps_set (i := 4) scMarks.nd rfl (Or.inl rfl) pe_int)
      (pss_one (ps_while (passes_of rfl) (PW.pt (pw_and (pt_cmpR op_lt (pv 4) (pe_callB call_len_str (by rfl) ml PySem.boot_len (pa_cons (pv 3) pa_nil)) (nomark _)) (pw_and1 (pt_cmpR op_ne (pe_ix ix_str (pv 3) (pv 4) (fun _ _ => rfl)) pe_str (nomark _)))))
        (pss_one (ps_if (pt_cmpR op_eq (pe_ix ix_str (pv 3) (pv 4) (fun _ _ => rfl)) pe_str (nomark _))
          (pss_one (ps_aug (i := 4) scMarks.nd rfl (Or.inl rfl) pe_int ip_add))
          (pss_cons (ps_set (i := 5) scMarks.nd rfl (Or.inl rfl) (pe_call GA hr rfl DA.g DA.F.kp DA.b .nil (L2N.passes_call (L2N.takes_of rfl rfl rfl rfl) fun _ _ _ _ h => h) (pa_cons (pv 3) (pa_cons (pv 4) (pa_cons (pv 2) pa_nil)))))
          (pss_cons (ps_expr (pe_bm PySem.F.plainAttrs_list PySem.F.slot_list_append PySem.F.type_list_append mt_append (pv 1) (pa_cons (pv 5) pa_nil)))
          (pss_one (ps_aug (i := 4) scMarks.nd rfl (Or.inl rfl) (pe_callB call_len_str (by rfl) ml PySem.boot_len (pa_cons (pe_ix ix_tup (pv 5) pe_int (fun _ _ => rfl)) pa_nil)) ip_add))))))))))
    (pss_one (ps_ret (pv 1)))), ?_⟩
  have lz : z.length = (tl z).length := TL.len_tl z
  have e10 : tl ("\n" : Str) = [10] := by decide +kernel
  have eH : tl ("#" : Str) = [35] := by decide +kernel
  have eB : tl (" " : Str) = [32] := by decide +kernel
  refine ⟨Nat.zero_le _, fun pF hF => ?_⟩
  refine ⟨_, rfl, ⟨_, rfl⟩, _, _, rfl, rfl, by decide +kernel, hz, fun pR hR => ?_⟩
  have nRF : pR ≠ pF := fun e => by rw [e, upd_same] at hR; cases hR
  have hR0 : H pR = none := by rw [upd_ne nRF] at hR; exact hR
  generalize hrs : Txt.split z ("\n" : Str) = rs
  have hrows : rs.map tl = rowsT (tl z) := by rw [← hrs]; exact split_rows z
  refine ⟨pR, rs.map V.str, rfl, SqL.of upd_same, for_it (walk_enum (xs := rs.map V.str)) (fun i σ H' => ∃ (as : List Addr) (ms : List Mrk) (v2 v3 v4 v5 : Option V), σ = [some (.str z), some (.ref pF), v2, v3, v4, v5] ∧ Same H H' ∧ H' pF = some (.lst (as.map V.ref)) ∧ H' pR = some (.lst (rs.map V.str)) ∧ MksAt H' as ms ∧
      marksF (tl z) = (lexRows i ((rowsT (tl z)).drop i)).map (fun b => ms ++ b) ∧ ms.length + (((rowsT (tl z)).drop i).map List.length).sum ≤ z.length)
    ⟨[], [], none, none, none, none, rfl, (Same.new hF _).trans (Same.new hR _), by rw [upd_ne (Ne.symm nRF), upd_same]; rfl, upd_same, .nil, by show _ = (marksF (tl z)).map (fun b => [] ++ b); simp, by
      have := rows_len (tl z) []
      show 0 + ((rowsT (tl z)).map List.length).sum ≤ _
      unfold rowsT
      simp only [List.length_nil] at this
      omega⟩
    (fun i σ H' _ ⟨as, ms, v2, v3, v4, v5, _, _, _, h, _⟩ => SqL.of h) ?_ ?_⟩
  · rintro i x σ H1 H2 hi ⟨as, ms, v2, v3, v4, v5, rfl, sm, hf, hr2, hm, hlex, hlen⟩ ⟨T, x1, x2, rfl, hT, rfl, e1, e2⟩
    have e1 : V.int (i : Nat) = x1 := Option.some.inj e1
    subst e1
    obtain ⟨r, hr1, rfl⟩ : ∃ r, rs[i]? = some r ∧ x2 = V.str r := by
      have e2 : (rs.map V.str)[i]? = some x2 := e2
      rw [List.getElem?_map] at e2
      cases e : rs[i]? with
      | none => rw [e] at e2; cases e2
      | some y => rw [e] at e2; exact ⟨y, rfl, (Option.some.inj e2).symm⟩
    have nTF : T ≠ pF := (ne_of_none hf hT).symm
    have nTR : T ≠ pR := (ne_of_none hr2 hT).symm
    have hrow : (rowsT (tl z))[i]? = some (tl r) := by rw [← hrows, List.getElem?_map, hr1]; rfl
    obtain ⟨hlt, erow⟩ := List.getElem?_eq_some_iff.mp hrow
    have edrop : (rowsT (tl z)).drop i = tl r :: (rowsT (tl z)).drop (i + 1) := by rw [List.drop_eq_getElem_cons hlt, erow]
    have elr : r.length = (tl r).length := TL.len_tl r
    generalize hQ : (rowsT (tl z)).drop (i + 1) = rest
    rw [edrop, hQ] at hlex hlen
    have hlex0 : marksF (tl z) = ((lexRow (i : Nat) 0 0 (tl r)).bind fun a => (lexRows (i + 1) rest).map fun b => a ++ b).map fun b => ms ++ b := hlex
    simp only [List.map_cons, List.sum_cons] at hlen
    refine ⟨T, _, rfl, SqT.of upd_same, rfl, _, _, rfl, _, _, rfl, rfl, ?_⟩
    -- at = 0; while ..
    refine ⟨fun m σ' H' => ∃ (at_ : Nat) (as : List Addr) (ms : List Mrk) (v5 : Option V), m = (tl r).length - at_ ∧ σ' = [some (.str z), some (.ref pF), some (.int (i : Nat)), some (.str r), some (.int (at_ : Nat)), v5] ∧ at_ ≤ (tl r).length ∧ Same H H' ∧ H' pF = some (.lst (as.map V.ref)) ∧ H' pR = some (.lst (rs.map V.str)) ∧ MksAt H' as ms ∧
      marksF (tl z) = ((lexRow (i : Nat) 0 at_ ((tl r).drop at_)).bind fun a => (lexRows (i + 1) rest).map fun b => a ++ b).map (fun b => ms ++ b) ∧ ms.length + ((tl r).length - at_) + (rest.map List.length).sum ≤ z.length,
      ⟨_, 0, as, ms, v5, rfl, rfl, Nat.zero_le _, sm.trans (Same.new hT _), by rw [upd_ne (Ne.symm nTF)]; exact hf, by rw [upd_ne (Ne.symm nTR)]; exact hr2, hm.same fun b xs e => by rw [upd_ne (ne_of_none e hT)]; exact e, hlex0, by omega⟩, ?_⟩
    rintro m σ' H' ⟨at_, as, ms, v5, rfl, rfl, hat, sm, hf, hr2, hm, hlex, hlen⟩
    have hrl : r.length ≤ sizeLine := by
      have : (tl r).length ≤ ((rowsT (tl z)).map List.length).sum := by
        rw [← List.take_append_drop i (rowsT (tl z)), edrop]
        simp only [List.map_append, List.map_cons, List.sum_append, List.sum_cons]
        omega
      have h3 := rows_len (tl z) []
      unfold rowsT at this
      simp only [List.length_nil] at h3
      omega
    -- the end of the row
    have fin : (lexRow ((i : Nat) : Int) 0 at_ ((tl r).drop at_)) = some [] → ∃ (as : List Addr) (ms : List Mrk) (v2 v3 v4 v5' : Option V), ([some (.str z), some (.ref pF), some (.int (i : Nat)), some (.str r), some (.int (at_ : Nat)), v5] : St) = [some (.str z), some (.ref pF), v2, v3, v4, v5'] ∧ Same H H' ∧ H' pF = some (.lst (as.map V.ref)) ∧ H' pR = some (.lst (rs.map V.str)) ∧ MksAt H' as ms ∧
        marksF (tl z) = (lexRows (i + 1) rest).map (fun b => ms ++ b) ∧ ms.length + (rest.map List.length).sum ≤ z.length := fun e => by
      refine ⟨as, ms, _, _, _, _, rfl, sm, hf, hr2, hm, ?_, by omega⟩
      rw [hlex, e]
      show ((lexRows (i + 1) rest).map fun b => [] ++ b).map _ = _
      simp
    refine ⟨_, rfl, _, rfl, _, rfl, hrl, _, _, rfl, rfl, _, rfl, ?_⟩
    refine ite2 (fun c => ?_) (fun c => ?_)
    · have c' : ((at_ : Nat) : Int) < ((r.length : Nat) : Int) := of_decide_eq_true c
      have hlt2 : at_ < (tl r).length := by omega
      have hg : (tl r)[at_]? = some (tl r)[at_] := List.getElem?_eq_getElem hlt2
      have ed2 : (tl r).drop at_ = (tl r)[at_] :: (tl r).drop (at_ + 1) := List.drop_eq_getElem_cons hlt2
      generalize (tl r)[at_] = c0 at hg ed2
      refine ⟨_, rfl, _, rfl, _, _, _, rfl, rfl, hrl, atI_nat hg, rfl, _, rfl, ?_⟩
      rw [sign_eq eH]
      by_cases h35 : c0 = 35
      · rw [decide_eq_true h35]
        refine iteF ?_
        exact fin (by rw [ed2, h35]; rfl)
      · rw [decide_eq_false h35]
        refine iteT ?_
        refine ⟨fun σ2 H2 => ∃ (at2 : Nat) (as : List Addr) (ms : List Mrk) (v5 : Option V), at_ < at2 ∧ σ2 = [some (.str z), some (.ref pF), some (.int (i : Nat)), some (.str r), some (.int (at2 : Nat)), v5] ∧ at2 ≤ (tl r).length ∧ Same H H2 ∧ H2 pF = some (.lst (as.map V.ref)) ∧ H2 pR = some (.lst (rs.map V.str)) ∧ MksAt H2 as ms ∧
            marksF (tl z) = ((lexRow (i : Nat) 0 at2 ((tl r).drop at2)).bind fun a => (lexRows (i + 1) rest).map fun b => a ++ b).map (fun b => ms ++ b) ∧ ms.length + ((tl r).length - at2) + (rest.map List.length).sum ≤ z.length, ?_, ?_⟩
        · rintro σ2 H2 ⟨at2, as, ms, v5, h0, h1, h2, h3⟩
          exact ⟨_, by omega, at2, as, ms, v5, rfl, h1, h2, h3⟩
        refine ⟨_, rfl, _, rfl, _, _, _, rfl, rfl, hrl, atI_nat hg, rfl, _, rfl, ?_⟩
        rw [sign_eq eB]
        by_cases h32 : c0 = 32
        · rw [decide_eq_true h32]
          refine iteT ?_
          refine ⟨_, rfl, _, _, rfl, rfl, at_ + 1, as, ms, v5, by omega, rfl, hlt2, sm, hf, hr2, hm, ?_, by omega⟩
          rw [hlex, ed2, h32, lexRow_blank]
        · rw [decide_eq_false h32]
          refine iteF ?_
          refine ⟨_, rfl, _, rfl, _, rfl, r, at_, i, rfl, hrl, fun k wd ht p hp => ?_, fun ht d Hd g1 g2 g3 => ?_⟩
          · have npF : pF ≠ p := ne_of_none hf hp
            have npR : pR ≠ p := ne_of_none hr2 hp
            have hasl : as.length = ms.length := Paired.length hm
            rw [ed2] at ht
            have hw1 : wd.length ≤ ((tl r).drop at_).length := by rw [ed2]; exact tok_le ht
            have hw2 : 1 ≤ wd.length := tok_pos ht
            rw [List.length_drop] at hw1
            refine ⟨_, rfl, .inl ⟨rfl, _, SqL.of (by rw [upd_ne npF]; exact hf)⟩, _, rfl, pF, _, _, rfl, rfl, by rw [upd_ne npF]; exact hf, by rw [List.length_map]; omega, ?_⟩
            refine ⟨_, rfl, _, rfl, p, _, _, .str (mkS wd), rfl, rfl, SqT.of (by rw [upd_ne (Ne.symm npF), upd_same]), rfl, _, rfl, by rw [len_mkS]; omega, _, _, rfl, rfl, ?_⟩
            refine ⟨at_ + wd.length, as ++ [p], ms ++ [⟨k, mkS wd, (i : Nat), (at_ : Nat)⟩], some (.ref p), by omega, ?_, by omega, fun b o e => ?_, ?_, ?_, ?_, ?_, ?_⟩
            · rw [len_mkS]
              have ei : ((at_ : Nat) : Int) + ((wd.length : Nat) : Int) = ((at_ + wd.length : Nat) : Int) := by omega
              show [some (V.str z), some (V.ref pF), some (V.int ((i : Nat) : Int)), some (V.str r), some (V.int (((at_ : Nat) : Int) + ((wd.length : Nat) : Int))), some (V.ref p)] = _
              rw [ei]
            · have nbF : b ≠ pF := ne_of_none e hF
              have nbp : b ≠ p := ne_of_none (sm b o e) hp
              rw [upd_ne nbF, upd_ne nbp]
              exact sm b o e
            · rw [upd_same, List.map_append]
              rfl
            · rw [upd_ne nRF, upd_ne npR]
              exact hr2
            · refine pair_app (hm.same fun b xs e => ?_) (.cons ?_ .nil)
              · have nbF : b ≠ pF := ne_of e hf (by intro q; cases q)
                rw [upd_ne nbF, upd_ne (ne_of_none e hp)]
                exact e
              · show upd (upd H' p _) pF _ p = _
                rw [upd_ne (Ne.symm npF), upd_same]
                rfl
            · rw [hlex, ed2, lexRow_tok h35 h32 ht, ← ed2, List.drop_drop]
              cases lexRow ((i : Nat) : Int) 0 (at_ + wd.length) ((tl r).drop (at_ + wd.length)) with
              | none => rfl
              | some a =>
                cases lexRows (i + 1) rest with
                | none => rfl
                | some b =>
                  show some (ms ++ (_ :: a ++ b)) = some (ms ++ [_] ++ (a ++ b))
                  simp
            · rw [List.length_append]
              simp only [List.length_cons, List.length_nil]
              omega
          · refine q2 ?_ d Hd _ _ (sm.trans g1) (sm.free g2) g3
            rw [hlex, ed2, lexRow_bad h35 h32 (by rw [← ed2]; exact ht)]
            rfl
    · have c' : ¬ ((at_ : Nat) : Int) < ((r.length : Nat) : Int) := of_decide_eq_false (Bool.eq_false_iff.mpr c)
      refine iteF ?_
      exact fin (by rw [List.drop_eq_nil_of_le (by omega)]; exact lexRow_nil ..)
  · rintro σ H' ⟨as, ms, v2, v3, v4, v5, rfl, sm, hf, hr2, hm, hlex, hlen⟩
    refine ⟨_, rfl, ?_⟩
    have el : (rs.map V.str).length = (rowsT (tl z)).length := by rw [← hrows, List.length_map, List.length_map]
    rw [el, List.drop_length] at hlex
    have hms : marksF (tl z) = some ms := by rw [hlex]; show some (ms ++ []) = _; rw [List.append_nil]
    exact q1 ms hms (by omega) pF as H' sm hF hf hm
end
end TP
set_option maxRecDepth 100000
set_option maxHeartbeats 4000000
namespace TP
open PySem PySem.Spec PyProof.Rows L2
/-! ### max(list, default=d) -/
def maxI (y : Int) (ys : List Int) : Int := ys.foldl (fun a y => if decide (a < y) = true then y else a) y
theorem maxI_le {c : Int} : ∀ (ys : List Int) (y : Int), c ≤ maxI y ys ↔ (y :: ys).any (fun x => decide (c ≤ x)) = true := by
  intro ys
  induction ys with
  | nil => intro y; simp [maxI]
  | cons z r ih =>
    intro y
    have e : maxI y (z :: r) = maxI (if decide (y < z) = true then z else y) r := rfl
    rw [e, ih]
    simp only [List.any_cons, Bool.or_eq_true, decide_eq_true_eq]
    constructor
    · rintro (h | h)
      · split at h
        · exact .inr (.inl h)
        · exact .inl h
      · exact .inr (.inr h)
    · rintro (h | h | h)
      · left
        split <;> omega
      · left
        split <;> omega
      · exact .inr h
theorem cr_maxDef {X : Cx} (hh : X.A.handled = none) (hu : X.A.units + 64 < cLine) : CallRK X (.builtin "max") [Str.ofString "default"]
    (fun vs zs H Q => ∃ (a : Addr) (ns : List Int) (d : Int), vs = [.ref a] ∧ zs = [.int d] ∧ SqL X.K H a (ns.map V.int) ∧ (ns = [] → Q (.int d) H) ∧ ∀ y ys, ns = y :: ys → Q (.int (maxI y ys)) H) := by
  intro pins s σ H vs zs us ws Q I r rz h
  obtain ⟨a, ns, d, rfl, rfl, hs, q0, q1⟩ := h
  obtain rfl := Vals.ref1 r
  obtain ⟨w1, rfl, e1⟩ := vals1 rz
  obtain ⟨t, rfl⟩ := e1
  obtain ⟨its, rv, hl, hz⟩ := I.list hs
  have hi : IntsAre its.toArray.toList ns := by
    have := rv.ints
    simpa using this
  refine PySem.W.max_list_datum_default (α := Int) (xs := ns) hh hl.isList (PySem.W.HoldAll.of_ints hi) ?_ (fun e h' tk k => ?_) (fun y ys i v h' tk e hv hd k => ?_)
  · show X.A.units + 1 + 0 < cLine
    omega
  · exact ⟨.int d, H, I.kept k, ⟨t, rfl⟩, q0 e⟩
  · obtain ⟨as, rd⟩ := hd
    have ev : ∃ t, v = Value.int (maxI y ys) t := by
      have rd' : Reads h' v (PyData.int (maxI y ys)) as := rd
      cases rd'
      exact ⟨_, rfl⟩
    obtain ⟨t2, rfl⟩ := ev
    exact ⟨.int (maxI y ys), H, I.kept k, ⟨t2, rfl⟩, q1 y ys e⟩

/-! ### the Layout object -/
theorem ts_ : ¬ (("told" : Str) = "stack") := by decide +kernel
theorem st_ : ¬ (("stack" : Str) = "told") := by decide +kernel
def lyF (lT lS : Addr) : List (Str × V) := L2.putF "stack" (.ref lS) (L2.putF "told" (.ref lT) [])
theorem lyF_told (lT lS : Addr) : (lyF lT lS).lookup ("told" : Str) = some (.ref lT) := by
  unfold lyF
  rw [lookup_putF, if_neg ts_, lookup_putF, if_pos rfl]
theorem lyF_stack (lT lS : Addr) : (lyF lT lS).lookup ("stack" : Str) = some (.ref lS) := by
  unfold lyF
  rw [lookup_putF, if_pos rfl]
theorem lyF_no (lT lS : Addr) {m : Str} (h1 : ¬ m = "stack") (h2 : ¬ m = "told") : (lyF lT lS).lookup m = none := by
  unfold lyF
  rw [lookup_putF, if_neg h1, lookup_putF, if_neg h2]
  rfl
structure LyA (C x dx lT lS : Addr) (H : Hp) (s : Lay) (as : List Addr) : Prop where
  o : H x = some (.ins C dx (lyF lT lS))
  ne : lT ≠ lS
  t : H lT = some (.lst (as.map V.ref))
  sk : H lS = some (.lst (s.st.reverse.map V.int))
  m : MksAt H as s.td.reverse
def Ly (C x dx lT lS : Addr) (H : Hp) (s : Lay) : Prop := ∃ as, LyA C x dx lT lS H s as
section
variable {C x dx lT lS : Addr} {H H' : Hp} {s : Lay} {as : List Addr}
theorem LyA.xT (h : LyA C x dx lT lS H s as) : x ≠ lT := ne_of h.o h.t (by intro q; cases q)
theorem LyA.xS (h : LyA C x dx lT lS H s as) : x ≠ lS := ne_of h.o h.sk (by intro q; cases q)
/-- a mark is told -/
theorem LyA.tell {m : Mrk} (h : LyA C x dx lT lS H s as) {p : Addr} (hp : H p = some (.tup m.v)) :
    LyA C x dx lT lS (upd H lT (.lst (as.map V.ref ++ [.ref p]))) ⟨s.st, m :: s.td⟩ (as ++ [p]) := by
  refine ⟨by rw [upd_ne h.xT]; exact h.o, h.ne, by rw [upd_same, List.map_append]; rfl, by rw [upd_ne (Ne.symm h.ne)]; exact h.sk, ?_⟩
  show Paired _ (as ++ [p]) (m :: s.td).reverse
  rw [List.reverse_cons]
  have k : ∀ b xs, H b = some (.tup xs) → upd H lT (.lst (as.map V.ref ++ [.ref p])) b = some (.tup xs) := fun b xs e => by
    rw [upd_ne (ne_of e h.t (by intro q; cases q))]
    exact e
  exact pair_app (h.m.same k) (.cons (k _ _ hp) .nil)
theorem LyA.grow (h : LyA C x dx lT lS H s as) (k : Same H H') : LyA C x dx lT lS H' s as :=
  ⟨k _ _ h.o, h.ne, k _ _ h.t, k _ _ h.sk, h.m.same fun b xs e => k _ _ e⟩
theorem LyA.stk (h : LyA C x dx lT lS H s as) (st : List Int) : LyA C x dx lT lS (upd H lS (.lst (st.reverse.map V.int))) ⟨st, s.td⟩ as := by
  refine ⟨by rw [upd_ne h.xS]; exact h.o, h.ne, by rw [upd_ne h.ne]; exact h.t, upd_same, h.m.same fun b xs e => ?_⟩
  rw [upd_ne (ne_of e h.sk (by intro q; cases q))]
  exact e
end
theorem rev_push (c : Int) (st : List Int) : st.reverse.map V.int ++ [.int c] = (c :: st).reverse.map V.int := by rw [List.reverse_cons, List.map_append]; rfl
theorem rev_pop (c : Int) (st : List Int) : ((c :: st).reverse.map V.int).dropLast = st.reverse.map V.int := by
  rw [← rev_push]
  exact List.dropLast_concat
theorem rev_last (c : Int) (st : List Int) : ((c :: st).reverse.map V.int)[((c :: st).reverse.map V.int).length - 1]? = some (V.int c) := by
  rw [← rev_push]
  simp
theorem rev_at (c : Int) (st : List Int) : atI ((c :: st).reverse.map V.int) (-1) = some (.int c) := by
  rw [← rev_push]
  exact atI_last _ _
theorem rev_in (st : List Int) : inV (.int (-1)) (st.reverse.map V.int) = decide ((-1) ∈ st) := by
  have e : ∀ l : List Int, inV (.int (-1)) (l.map V.int) = decide ((-1) ∈ l) := by
    intro l
    unfold inV
    induction l with
    | nil => rfl
    | cons y r ih =>
      rw [List.map_cons, List.any_cons, ih]
      show ((y == -1) || decide ((-1) ∈ r)) = _
      by_cases h : y = -1
      · subst h
        simp
      · have h2 : ¬ (-1) = y := fun z => h z.symm
        simp [h, h2]
  rw [e]
  simp
theorem flat_ints (xs : List Int) : (xs.map V.int).all flatV = true := by
  induction xs with
  | nil => rfl
  | cons y r ih => rw [List.map_cons, List.all_cons, ih]; rfl
/-- what may be raised -/
def Rz (E : XK) (ex : List Addr) (C : Addr) (H : Hp) : Prop := ∀ (d : Addr) (H' : Hp) (l c : Int), SameX ex H H' → H' d = some (.xd (xfs l c)) → E (.ref C) (some d) H'
theorem Rz.step {E : XK} {ex : List Addr} {C : Addr} {H H1 : Hp} (z : Rz E ex C H) (k : SameX ex H H1) : Rz E ex C H1 := fun d H' l c k2 e => z d H' l c (k.trans k2) e
theorem Rz.mono {E : XK} {ex ex' : List Addr} {C : Addr} {H : Hp} (z : Rz E ex' C H) (k : ∀ b ∈ ex, b ∈ ex') : Rz E ex C H := fun d H' l c k2 e => z d H' l c (k2.mono k) e

structure LyC (K : PySem.W.Frag) (C : Addr) : Prop where
  cl : Cls K C
  nT : NoAttr K C "told"
  nS : NoAttr K C "stack"
structure Mt (K : PySem.W.Frag) (C : Addr) (m qual : Str) (st : Stmt) (f : Addr) (fd : FuncData) (ps : List Str) : Prop where
  F : Fun K m qual st f fd
  m : Meth K C m f
  b : Binds K fd ps []
/-- the classes that are raised, and the constants -/
structure LyX (P : Program) (w : World) (K : PySem.W.Frag) (mg : Str → Option Value) (base : Heap) (CN CT fB : Addr) (fdB : FuncData) : Prop where
  n : ExC K mg "NoBlock" CN fB
  t : ExC K mg "TooDeep" CT fB
  F : FnOk P w K mg base CX0 1 fB fdB ["self", "line", "column"] (spBad K)
  b : Binds K fdB ["self", "line", "column"] []
  ty : PySem.W.typeIn K (.ref fB) = some (.type "function")
  most : ∃ t, mg "MOST_OPEN" = some (.int 24 t)
  brk : ∃ t, mg "BRACKET" = some (.int (-1) t)
  len : mg "len" = none
  max : mg "max" = none

section
variable {P : Program} {w : World} {K : PySem.W.Frag} {mg : Str → Option Value} {base : Heap}
/-! ### Layout.__init__ -/
def spLyInit (C : Addr) : Sp := fun vs H Q _ => ∃ (x dx : Addr), vs = [.ref x] ∧ H x = some (.ins C dx []) ∧
  ∀ (lT lS : Addr) (H' : Hp), SameX [x] H H' → H lT = none → H lS = none → LyA C x dx lT lS H' ⟨[], []⟩ [] → Q .non H'
theorem scLyInit : FnScope ["self"] ["self"] (defScope sLyInit) := ⟨rfl, rfl, rfl, by decide +kernel, rfl, by decide +kernel, by decide +kernel⟩
theorem ok_lyInit {f C : Addr} {fd : FuncData} (F : Fun K "__init__" "Layout.__init__" sLyInit f fd) (T : LyC K C) : FnOk P w K mg base CX0 1 f fd ["self"] (spLyInit C) := by
  refine F.ok scLyInit (fun vs H Q E h => ?_) (fun cdv A outer s H vs Q E hr h => ?_)
  · obtain ⟨x, dx, rfl, _⟩ := h
    rfl
  obtain ⟨x, dx, rfl, hx, q⟩ := h
  refine ⟨_, pss_cons (ps_fld (pv 0) (pe_lst pa_nil) rfl) (pss_one (ps_fld (pv 0) (pe_lst pa_nil) rfl)), ?_⟩
  refine ⟨Nat.zero_le _, fun lT hT => ?_⟩
  have nxT : x ≠ lT := ne_of_none hx hT
  refine ⟨_, rfl, x, C, dx, [], rfl, by rw [upd_ne nxT]; exact hx, T.cl, T.nT, by show 0 < 1000; decide, ?_⟩
  refine ⟨Nat.zero_le _, fun lS hS => ?_⟩
  have nxS : x ≠ lS := fun z => by rw [← z, upd_same] at hS; cases hS
  have nST : lS ≠ lT := fun z => by rw [z, upd_ne (Ne.symm nxT), upd_same] at hS; cases hS
  have hS0 : H lS = none := by rw [upd_ne (Ne.symm nxS), upd_ne nST] at hS; exact hS
  refine ⟨_, rfl, x, C, dx, _, rfl, Eq.trans (upd_ne nxS) upd_same, T.cl, T.nS, by show 1 < 1000; decide, ?_⟩
  refine q lT lS _ (fun b o e nb => ?_) hT hS0 ⟨upd_same, Ne.symm nST, ?_, ?_, .nil⟩
  · have nbx : b ≠ x := fun z => nb (by rw [z]; simp)
    rw [upd_ne nbx, upd_ne (ne_of_none e hS0), upd_ne nbx, upd_ne (ne_of_none e hT)]
    exact e
  · rw [upd_ne (Ne.symm nxT), upd_ne (Ne.symm nST), upd_ne (Ne.symm nxT), upd_same]
    rfl
  · rw [upd_ne (Ne.symm nxS), upd_same]
    rfl

/-! ### Layout.lay -/
def spLay (C : Addr) : Sp := fun vs H Q _ => ∃ (x dx lT lS : Addr) (s : Lay) (sg : Str) (l c : Int), vs = [.ref x, .str sg, .int l, .int c] ∧ Ly C x dx lT lS H s ∧ s.td.length < sizeLine ∧
  ∀ H', SameX [lT, lS] H H' → Ly C x dx lT lS H' ⟨s.st, ⟨"lay", sg, l, c⟩ :: s.td⟩ → Q .non H'
theorem scLay : FnScope ["self", "sign", "line", "column"] ["self", "sign", "line", "column"] (defScope sLyLay) := ⟨rfl, rfl, rfl, by decide +kernel, rfl, by decide +kernel, by decide +kernel⟩
theorem ok_lay {f C : Addr} {fd : FuncData} (F : Fun K "lay" "Layout.lay" sLyLay f fd) (T : LyC K C) : FnOk P w K mg base CX0 1 f fd ["self", "sign", "line", "column"] (spLay C) := by
  refine F.ok scLay (fun vs H Q E h => ?_) (fun cdv A outer s H vs Q E hr h => ?_)
  · obtain ⟨x, dx, lT, lS, s, sg, l, c, rfl, _⟩ := h
    rfl
  obtain ⟨x, dx, lT, lS, s, sg, l, c, rfl, ⟨as, h⟩, hl, q⟩ := h
  refine ⟨_, pss_one (ps_expr (pe_bm PySem.F.plainAttrs_list PySem.F.slot_list_append PySem.F.type_list_append mt_append (pe_fld (pv 0) rfl) (pa_cons (pe_tup (pa_cons pe_str (pa_cons (pv 1) (pa_cons (pv 2) (pa_cons (pv 3) pa_nil))))) pa_nil))), ?_⟩
  have la : as.length = s.td.length := by rw [Paired.length h.m, List.length_reverse]
  refine ⟨_, rfl, x, C, dx, _, _, rfl, h.o, T.cl, T.nT, lyF_told _ _, .inl ⟨rfl, _, SqL.of h.t⟩, _, rfl, _, rfl, _, rfl, by show 4 ≤ sizeLine; decide, fun p hp => ?_⟩
  have g := Same.new hp (.tup [.str "lay", .str sg, .int l, .int c])
  have h1 := h.grow g
  refine ⟨lT, _, _, rfl, rfl, h1.t, by rw [List.length_map]; omega, ?_⟩
  refine q _ ((SameX.of g).trans (SameX.put (by simp) _)) ⟨_, h1.tell (m := ⟨"lay", sg, l, c⟩) upd_same⟩

/-! ### Layout.begin -/
def spBegin (C CT : Addr) : Sp := fun vs H Q E => ∃ (x dx lT lS m : Addr) (s : Lay) (c : Int) (mk : Mrk), vs = [.ref x, .int c, .ref m] ∧ Ly C x dx lT lS H s ∧ MkAt H m mk ∧ s.st.length ≤ 24 ∧
  (s.st.length ≠ 24 → ∀ H', SameX [lT, lS] H H' → Ly C x dx lT lS H' ⟨c :: s.st, s.td⟩ → Q .non H') ∧ (s.st.length = 24 → Rz E [lT, lS] CT H)
theorem scBegin : FnScope ["self", "column", "mark"] ["self", "column", "mark"] (defScope sLyBegin) := ⟨rfl, rfl, rfl, by decide +kernel, rfl, by decide +kernel, by decide +kernel⟩
theorem ok_begin {f C CN CT fB : Addr} {fd fdB : FuncData} (F : Fun K "begin" "Layout.begin" sLyBegin f fd) (T : LyC K C) (X : LyX P w K mg base CN CT fB fdB) : FnOk P w K mg base (L2N.CX P w) 3 f fd ["self", "column", "mark"] (spBegin C CT) := by
  obtain ⟨tM, gM⟩ := X.most
  refine F.okXN scBegin (fun vs H Q E h => ?_) (fun cdv A outer s H vs Q E hr h => ?_)
  · obtain ⟨x, dx, lT, lS, m, s, c, mk, rfl, _⟩ := h
    rfl
  obtain ⟨x, dx, lT, lS, m, s, c, mk, rfl, ⟨as, h⟩, hm, h24, q1, q2⟩ := h
  have hm : H m = some (.tup mk.v) := hm
  refine ⟨_, pss_cons (ps_if (pt_cmpR op_eq (pe_callB call_len_seq (by rfl) X.len PySem.boot_len (pa_cons (pe_fld (pv 0) rfl) pa_nil)) (pe_glob (v := .int 24) rfl gM ⟨_, rfl⟩) (nomark _))
      (pss_one (L2N.ps_raise rfl (L2N.takes_of rfl rfl rfl rfl) (pmk_oexN X.t.o X.t.i X.ty X.F hr X.b .nil pass0 rfl X.t.g (pa_cons (pe_ix ix_tup (pv 2) pe_int (fun _ _ => rfl)) (pa_cons (pe_ix ix_tup (pv 2) pe_int (fun _ _ => rfl)) pa_nil))))) pss_nil)
    (pss_one (ps_expr (pe_bm PySem.F.plainAttrs_list PySem.F.slot_list_append PySem.F.type_list_append mt_append (pe_fld (pv 0) rfl) (pa_cons (pv 1) pa_nil)))), ?_⟩
  have lst : (s.st.reverse.map V.int).length = s.st.length := by rw [List.length_map, List.length_reverse]
  refine ⟨_, rfl, x, C, dx, _, _, rfl, h.o, T.cl, T.nS, lyF_stack _ _, lS, _, rfl, .inl (SqL.of h.sk), rfl, _, rfl, ?_⟩
  rw [lst]
  refine ite2 (fun c1 => ?_) (fun c1 => ?_)
  · have c2 : V.int ((s.st.length : Nat) : Int) = V.int 24 := of_decide_eq_true c1
    injection c2 with c3
    have z := q2 (by omega)
    refine ⟨_, rfl, m, _, _, _, rfl, rfl, SqT.of hm, rfl, _, rfl, m, _, _, _, rfl, rfl, SqT.of hm, rfl, by simp, ?_⟩
    exact raise_go X.t.o X.t.nl X.t.nc fun d H' g1 g2 g3 => z d H' _ _ (SameX.of g1) g3
  · have c2 : ¬ (V.int ((s.st.length : Nat) : Int) = V.int 24) := of_decide_eq_false (Bool.eq_false_iff.mpr c1)
    refine ⟨_, rfl, x, C, dx, _, _, rfl, h.o, T.cl, T.nS, lyF_stack _ _, .inl ⟨rfl, _, SqL.of h.sk⟩, _, rfl, lS, _, _, rfl, rfl, h.sk, by rw [lst]; exact Nat.lt_of_le_of_lt h24 (by decide), ?_⟩
    rw [rev_push]
    exact q1 (fun z => c2 (by rw [z]; rfl)) _ (SameX.put (by simp) _) ⟨_, h.stk _⟩

/-! ### Layout.block -/
def spBlk (C CN CT : Addr) : Sp := fun vs H Q E => ∃ (x dx lT lS m : Addr) (s : Lay) (mk : Mrk), vs = [.ref x, .ref m] ∧ Ly C x dx lT lS H s ∧ MkAt H m mk ∧ 0 ≤ mk.col ∧ s.st.length ≤ 24 ∧ s.td.length + 40 ≤ sizeLine ∧
  (∀ s', blockF mk s = some s' → ∀ H', SameX [lT, lS] H H' → Ly C x dx lT lS H' s' → Q .non H') ∧ (blockF mk s = none → Rz E [lT, lS] CN H ∧ Rz E [lT, lS] CT H)
theorem scBlk : FnScope ["self", "mark"] ["self", "mark"] (defScope sLyBlock) := ⟨rfl, rfl, rfl, by decide +kernel, rfl, by decide +kernel, by decide +kernel⟩
theorem ok_blk {f fL fG C CN CT fB : Addr} {fd fdL fdG fdB : FuncData} (F : Fun K "block" "Layout.block" sLyBlock f fd) (T : LyC K C) (X : LyX P w K mg base CN CT fB fdB)
    (ML : Mt K C "lay" "Layout.lay" sLyLay fL fdL ["self", "sign", "line", "column"]) (MG : Mt K C "begin" "Layout.begin" sLyBegin fG fdG ["self", "column", "mark"]) :
    FnOk P w K mg base (L2N.CX P w) 4 f fd ["self", "mark"] (spBlk C CN CT) := by
  have GL : FnOk P w K mg base CX0 1 fL fdL ["self", "sign", "line", "column"] (spLay C) := ok_lay ML.F T
  have GG : FnOk P w K mg base (L2N.CX P w) 3 fG fdG ["self", "column", "mark"] (spBegin C CT) := ok_begin MG.F T X
  obtain ⟨tB, gB⟩ := X.brk
  refine F.okXN scBlk (fun vs H Q E h => ?_) (fun cdv A outer s H vs Q E hr h => ?_)
  · obtain ⟨x, dx, lT, lS, m, s, mk, rfl, _⟩ := h
    rfl
  obtain ⟨x, dx, lT, lS, m, s, mk, rfl, ⟨as, h⟩, hm, hc, h24, htd, q1, q2⟩ := h
  have hm : H m = some (.tup mk.v) := hm
  have hr1 : Room 1 _ := hr.mono (by decide)
  refine ⟨_, pss_cons (ps_if (pt_cmpR op_le (pe_ix ix_tup (pv 1) pe_int (fun _ _ => rfl)) (pe_callBK (cr_maxDef hr.hd hr.units) rfl X.max (by decide +kernel) (pa_cons (pe_fld (pv 0) rfl) pa_nil) (pk_cons (pe_glob (v := .int (-1)) rfl gB ⟨_, rfl⟩) pk_nil)) (nomark _))
      (pss_one (L2N.ps_raise rfl (L2N.takes_of rfl rfl rfl rfl) (pmk_oexN X.n.o X.n.i X.ty X.F (hr.mono (by decide)) X.b .nil pass0 rfl X.n.g (pa_cons (pe_ix ix_tup (pv 1) pe_int (fun _ _ => rfl)) (pa_cons (pe_ix ix_tup (pv 1) pe_int (fun _ _ => rfl)) pa_nil))))) pss_nil)
    (pss_cons (ps_expr (pe_meth (pv 0) T.cl MG.m GG hr MG.b .nil (L2N.passes_call (L2N.takes_of rfl rfl rfl rfl) fun _ _ _ _ h => h) (pa_cons (pe_ix ix_tup (pv 1) pe_int (fun _ _ => rfl)) (pa_cons (pv 1) pa_nil))))
    (pss_one (ps_expr (pe_meth (pv 0) T.cl ML.m GL hr1 ML.b .nil pass0 (pa_cons pe_str (pa_cons (pe_ix ix_tup (pv 1) pe_int (fun _ _ => rfl)) (pa_cons (pe_ix ix_tup (pv 1) pe_int (fun _ _ => rfl)) pa_nil))))))), ?_⟩
  have any_rev : s.st.reverse.any (fun x => decide (mk.col ≤ x)) = s.st.any (fun x => decide (mk.col ≤ x)) := by
    rw [List.any_reverse]
  -- what stands behind the first test
  have go : blockF mk s = none ∧ s.st.any (fun x => decide (mk.col ≤ x)) = true ∨ s.st.any (fun x => decide (mk.col ≤ x)) = false := by
    cases e : s.st.any (fun x => decide (mk.col ≤ x)) with
    | true => exact .inl ⟨by unfold blockF; rw [if_pos e], rfl⟩
    | false => exact .inr rfl
  have rest : s.st.any (fun x => decide (mk.col ≤ x)) = false →
      (tSeq (tDrop (tMeth C "begin" (spBegin C CT) [] E (tVar 0) (tCons (tOp (rIxT K) (tVar 1) (tC (.int 3))) (tCons (tVar 1) tNil))))
        (tDrop (tMeth C "lay" (spLay C) [] E0 (tVar 0) (tCons (tC (.str "{")) (tCons (tOp (rIxT K) (tVar 1) (tC (.int 2))) (tCons (tOp (rIxT K) (tVar 1) (tC (.int 3))) tNil))))))
        { nx := fun _ H' => Q .non H', rt := Q } [some (.ref x), some (.ref m)] H := fun e => by
    refine ⟨_, rfl, x, dx, _, rfl, h.o, lyF_no _ _ (by decide +kernel) (by decide +kernel), ?_⟩
    refine ⟨_, rfl, m, _, _, _, rfl, rfl, SqT.of hm, rfl, _, rfl, ?_⟩
    refine ⟨x, dx, lT, lS, m, s, mk.col, mk, rfl, ⟨as, h⟩, hm, h24, fun hne H1 g1 h1 => ?_, fun he => ?_⟩
    · obtain ⟨as1, h1⟩ := h1
      have hm1 : H1 m = some (.tup mk.v) := g1 _ _ hm (by
        intro z
        simp only [List.mem_cons, List.not_mem_nil, or_false] at z
        rcases z with z | z
        · exact ne_of hm h.t (by intro q; cases q) z
        · exact ne_of hm h.sk (by intro q; cases q) z)
      refine ⟨_, rfl, x, dx, _, rfl, h1.o, lyF_no _ _ (by decide +kernel) (by decide +kernel), ?_⟩
      refine ⟨_, rfl, m, _, _, _, rfl, rfl, SqT.of hm1, rfl, _, rfl, m, _, _, _, rfl, rfl, SqT.of hm1, rfl, ?_⟩
      refine ⟨x, dx, lT, lS, _, "{", mk.line, mk.col, rfl, ⟨as1, h1⟩, by show s.td.length < sizeLine; omega, fun H2 g2 h2 => ?_⟩
      refine q1 ⟨mk.col :: s.st, lay "{" mk :: s.td⟩ ?_ H2 (g1.trans g2) h2
      unfold blockF
      rw [e, if_neg Bool.false_ne_true, if_neg hne]
    · refine (q2 ?_).2
      unfold blockF
      rw [e, if_neg Bool.false_ne_true, if_pos he]
  refine ⟨_, rfl, m, _, _, _, rfl, rfl, SqT.of hm, rfl, ?_⟩
  refine ⟨_, rfl, x, C, dx, _, _, rfl, h.o, T.cl, T.nS, lyF_stack _ _, lS, s.st.reverse, -1, rfl, rfl, SqL.of h.sk, fun e => ?_, fun y ys e => ?_⟩
  · have e2 : s.st = [] := by simpa using e
    refine ⟨_, _, rfl, rfl, _, rfl, ?_⟩
    have ed : decide (mk.col ≤ -1) = false := decide_eq_false (by omega)
    show (if decide (mk.col ≤ -1) = true then _ else _)
    rw [ed]
    refine iteF (rest ?_)
    rw [e2]
    rfl
  · refine ⟨_, _, rfl, rfl, _, rfl, ?_⟩
    have ed : decide (mk.col ≤ maxI y ys) = s.st.any (fun x => decide (mk.col ≤ x)) := by
      rw [← any_rev, e, Bool.eq_iff_iff, decide_eq_true_eq]
      exact maxI_le ys y
    show (if decide (mk.col ≤ maxI y ys) = true then _ else _)
    rw [ed]
    rcases go with ⟨hb, ht⟩ | hf
    · rw [ht]
      refine iteT ?_
      refine ⟨_, rfl, m, _, _, _, rfl, rfl, SqT.of hm, rfl, _, rfl, m, _, _, _, rfl, rfl, SqT.of hm, rfl, by simp, ?_⟩
      exact raise_go X.n.o X.n.nl X.n.nc fun d H' g1 g2 g3 => (q2 hb).1 d H' _ _ (SameX.of g1) g3
    · rw [hf]
      exact iteF (rest hf)
end
end TP
set_option maxRecDepth 100000
set_option maxHeartbeats 4000000
namespace TP
open PySem L2
/-! ### sizes -/
theorem folF_size (m : Mrk) : ∀ (st : List Int) (td : List Mrk) (s' : Lay), folF m st td = some s' → s'.td.length + s'.st.length ≤ td.length + st.length + 1 ∧ s'.st.length ≤ st.length := by
  intro st
  induction st with
  | nil => intro td s' h; cases h
  | cons c r ih =>
    intro td s' h
    unfold folF at h
    split at h
    · split at h
      · cases h
      · have := ih _ _ h
        simp only [List.length_cons] at this ⊢
        omega
    · split at h
      · cases h
        simp only [List.length_cons]
        omega
      · cases h
        simp only [List.length_cons]
        omega
theorem popF_size (m : Mrk) : ∀ (st : List Int) (td : List Mrk), (popF m st td).td.length + (popF m st td).st.length ≤ td.length + st.length ∧ (popF m st td).st.length ≤ st.length := by
  intro st
  induction st with
  | nil => intro td; exact ⟨Nat.le_refl _, Nat.le_refl _⟩
  | cons c r ih =>
    intro td
    unfold popF
    split
    · simp only [List.length_cons]
      omega
    · have := ih (lay "}" m :: td)
      simp only [List.length_cons] at this ⊢
      omega
theorem enterF_size {m : Mrk} {ah : Option Mrk} {s s' : Lay} (h : enterF m ah s = some s') (h24 : s.st.length ≤ 24) : s'.td.length + s'.st.length ≤ s.td.length + s.st.length + 2 ∧ s'.st.length ≤ 24 := by
  have hb : ∀ {s'}, blockF m s = some s' → s'.td.length + s'.st.length ≤ s.td.length + s.st.length + 2 ∧ s'.st.length ≤ 24 := fun {s'} h => by
    unfold blockF at h
    split at h
    · cases h
    · split at h
      · cases h
      · cases h
        simp only [List.length_cons]
        omega
  unfold enterF at h
  split at h
  · exact hb h
  · split at h
    · exact hb h
    · split at h
      · have := folF_size _ _ _ _ h
        omega
      · cases h
        omega
theorem brkF_size {m : Mrk} {s s' : Lay} (h : (if m.kind = "sign" then brkF m s else some s) = some s') (h24 : s.st.length ≤ 24) : s'.td.length + s'.st.length ≤ s.td.length + s.st.length + 1 ∧ s'.st.length ≤ 24 := by
  split at h
  · unfold brkF at h
    split at h
    · split at h
      · cases h
      · cases h
        simp only [List.length_cons]
        omega
    · split at h
      · cases h
        have := popF_size m s.st s.td
        omega
      · cases h
        omega
  · cases h
    omega
theorem putF_size {m : Mrk} {ah : Option Mrk} {s s' : Lay} (h : putF m ah s = some s') (h24 : s.st.length ≤ 24) : s'.td.length + s'.st.length ≤ s.td.length + s.st.length + 4 ∧ s'.st.length ≤ 24 := by
  obtain ⟨s1, h1, h2⟩ := Option.bind_eq_some_iff.mp h
  obtain ⟨s2, h3, rfl⟩ := Option.map_eq_some_iff.mp h2
  have a := enterF_size h1 h24
  have b := brkF_size h3 a.2
  simp only [List.length_cons]
  omega
/-- tuples of marks don't stand where the lists stand -/
theorem LyA.tup {C x dx lT lS : Addr} {H H' : Hp} {s : Lay} {as : List Addr} (h : LyA C x dx lT lS H s as) (k : SameX [lT, lS] H H') {m : Addr} {xs : List V} (hm : H m = some (.tup xs)) : H' m = some (.tup xs) := k _ _ hm (by
  intro z
  simp only [List.mem_cons, List.not_mem_nil, or_false] at z
  rcases z with z | z
  · exact ne_of hm h.t (by intro q; cases q) z
  · exact ne_of hm h.sk (by intro q; cases q) z)

section
variable {P : Program} {w : World} {K : PySem.W.Frag} {mg : Str → Option Value} {base : Heap}
/-! ### Layout.first_of_line -/
def spFst (C CN : Addr) : Sp := fun vs H Q E => ∃ (x dx lT lS m : Addr) (s : Lay) (mk : Mrk), vs = [.ref x, .ref m] ∧ Ly C x dx lT lS H s ∧ MkAt H m mk ∧ 0 ≤ mk.col ∧ s.st ≠ [] ∧ s.st.length ≤ 24 ∧ s.td.length + 40 ≤ sizeLine ∧
  (∀ s', folF mk s.st s.td = some s' → ∀ H', SameX [lT, lS] H H' → Ly C x dx lT lS H' s' → Q .non H') ∧ (folF mk s.st s.td = none → Rz E [lT, lS] CN H)
theorem scFst : FnScope ["self", "mark"] ["self", "mark"] (defScope sLyFirst) := ⟨rfl, rfl, rfl, by decide +kernel, rfl, by decide +kernel, by decide +kernel⟩
theorem ok_fst {f fL C CN CT fB : Addr} {fd fdL fdB : FuncData} (F : Fun K "first_of_line" "Layout.first_of_line" sLyFirst f fd) (T : LyC K C) (X : LyX P w K mg base CN CT fB fdB)
    (ML : Mt K C "lay" "Layout.lay" sLyLay fL fdL ["self", "sign", "line", "column"]) : FnOk P w K mg base (L2N.CX P w) 3 f fd ["self", "mark"] (spFst C CN) := by
  have GL : FnOk P w K mg base CX0 1 fL fdL ["self", "sign", "line", "column"] (spLay C) := ok_lay ML.F T
  refine F.okXN scFst (fun vs H Q E h => ?_) (fun cdv A outer s H vs Q E hr h => ?_)
  · obtain ⟨x, dx, lT, lS, m, s, mk, rfl, _⟩ := h
    rfl
  obtain ⟨x, dx, lT, lS, m, s, mk, rfl, hL, hm, hc, hne, h24, htd, q1, q2⟩ := h
  have hm : H m = some (.tup mk.v) := hm
  have hr1 : Room 1 _ := hr.mono (by decide)
  refine ⟨_, pss_cons (ps_while (passes_of rfl) (pt_cmpR op_gt (pe_ix ix_list (pe_fld (pv 0) rfl) (pe_un un_neg pe_int) (fun _ _ => rfl)) (pe_ix ix_tup (pv 1) pe_int (fun _ _ => rfl)) (nomark _))
      (pss_cons (ps_if (pt_cmpR op_eq (pe_callB call_len_seq (by rfl) X.len PySem.boot_len (pa_cons (pe_fld (pv 0) rfl) pa_nil)) pe_int (nomark _))
        (pss_one (L2N.ps_raise rfl (L2N.takes_of rfl rfl rfl rfl) (pmk_oexN X.n.o X.n.i X.ty X.F hr X.b .nil pass0 rfl X.n.g (pa_cons (pe_ix ix_tup (pv 1) pe_int (fun _ _ => rfl)) (pa_cons (pe_ix ix_tup (pv 1) pe_int (fun _ _ => rfl)) pa_nil))))) pss_nil)
      (pss_cons (ps_expr (pe_bm0 PySem.F.plainAttrs_list PySem.F.slot_list_pop PySem.F.type_list_pop mt_pop (pe_fld (pv 0) rfl)))
      (pss_one (ps_expr (pe_meth (pv 0) T.cl ML.m GL hr1 ML.b .nil pass0 (pa_cons pe_str (pa_cons (pe_ix ix_tup (pv 1) pe_int (fun _ _ => rfl)) (pa_cons (pe_ix ix_tup (pv 1) pe_int (fun _ _ => rfl)) pa_nil)))))))))
    (pss_one (ps_if (pt_cmpR op_eq (pe_ix ix_list (pe_fld (pv 0) rfl) (pe_un un_neg pe_int) (fun _ _ => rfl)) (pe_ix ix_tup (pv 1) pe_int (fun _ _ => rfl)) (nomark _))
      (pss_one (ps_expr (pe_meth (pv 0) T.cl ML.m GL hr1 ML.b .nil pass0 (pa_cons pe_str (pa_cons (pe_ix ix_tup (pv 1) pe_int (fun _ _ => rfl)) (pa_cons (pe_ix ix_tup (pv 1) pe_int (fun _ _ => rfl)) pa_nil)))))) pss_nil)), ?_⟩
  have hm0 : ∀ {H1 : Hp}, SameX [lT, lS] H H1 → H1 m = some (.tup mk.v) := fun k => by
    obtain ⟨as, h⟩ := hL
    exact h.tup k hm
  generalize hres : folF mk s.st s.td = res at q1 q2
  refine ⟨fun n σ H1 => ∃ s1 : Lay, n = s1.st.length ∧ σ = [some (.ref x), some (.ref m)] ∧ SameX [lT, lS] H H1 ∧ Ly C x dx lT lS H1 s1 ∧ folF mk s1.st s1.td = res ∧ s1.st ≠ [] ∧ s1.td.length + s1.st.length ≤ s.td.length + s.st.length,
    ⟨_, s, rfl, rfl, SameX.refl _ _, hL, hres, hne, Nat.le_refl _⟩, ?_⟩
  rintro n σ H1 ⟨⟨st, td⟩, rfl, rfl, g, ⟨as, h⟩, hf, hn1, hz⟩
  cases st with
  | nil => exact absurd rfl hn1
  | cons c r =>
  have hm1 := hm0 g
  have hz : td.length + (c :: r).length ≤ s.td.length + s.st.length := hz
  have hf : folF mk (c :: r) td = res := hf
  rw [List.length_cons] at hz
  refine ⟨_, rfl, x, C, dx, _, _, rfl, h.o, T.cl, T.nS, lyF_stack _ _, _, rfl, lS, _, _, _, rfl, rfl, SqL.of h.sk, rev_at _ _, ?_⟩
  refine ⟨_, rfl, m, _, _, _, rfl, rfl, SqT.of hm1, rfl, _, _, rfl, rfl, _, rfl, ?_⟩
  refine ite2 (fun c1 => ?_) (fun c1 => ?_)
  · have c2 : mk.col < c := of_decide_eq_true c1
    unfold folF at hf
    rw [if_pos (show c > mk.col from c2)] at hf
    refine ⟨fun σ2 H2 => ∃ s2 : Lay, s2.st.length < (c :: r).length ∧ σ2 = [some (.ref x), some (.ref m)] ∧ SameX [lT, lS] H H2 ∧ Ly C x dx lT lS H2 s2 ∧ folF mk s2.st s2.td = res ∧ s2.st ≠ [] ∧ s2.td.length + s2.st.length ≤ s.td.length + s.st.length, ?_, ?_⟩
    · rintro σ2 H2 ⟨s2, h0, h1⟩
      exact ⟨_, h0, s2, rfl, h1⟩
    have lst : ((c :: r).reverse.map V.int).length = r.length + 1 := by rw [List.length_map, List.length_reverse, List.length_cons]
    refine ⟨_, rfl, x, C, dx, _, _, rfl, h.o, T.cl, T.nS, lyF_stack _ _, lS, _, rfl, .inl (SqL.of h.sk), rfl, _, rfl, ?_⟩
    show (if decide (V.int ((((c :: r).reverse.map V.int).length : Nat) : Int) = V.int 1) = true then _ else _)
    rw [lst]
    refine ite2 (fun c3 => ?_) (fun c3 => ?_)
    · have c4 : V.int (((r.length + 1 : Nat)) : Int) = V.int 1 := of_decide_eq_true c3
      injection c4 with c5
      have er : r = [] := List.eq_nil_of_length_eq_zero (by omega)
      rw [if_pos er] at hf
      have z := (q2 hf.symm).step g
      refine ⟨_, rfl, m, _, _, _, rfl, rfl, SqT.of hm1, rfl, _, rfl, m, _, _, _, rfl, rfl, SqT.of hm1, rfl, by simp, ?_⟩
      exact raise_go X.n.o X.n.nl X.n.nc fun d H' g1 g2 g3 => z d H' _ _ (SameX.of g1) g3
    · have c4 : ¬ (V.int (((r.length + 1 : Nat)) : Int) = V.int 1) := of_decide_eq_false (Bool.eq_false_iff.mpr c3)
      have er : r ≠ [] := fun e => c4 (by rw [e]; rfl)
      rw [if_neg er] at hf
      refine ⟨_, rfl, x, C, dx, _, _, rfl, h.o, T.cl, T.nS, lyF_stack _ _, .inl ⟨rfl, _, SqL.of h.sk⟩, lS, _, _, rfl, rfl, h.sk, rev_last _ _, ?_⟩
      have e0 : ((⟨c :: r, td⟩ : Lay).st.reverse.map V.int).dropLast = r.reverse.map V.int := rev_pop c r
      rw [e0]
      have h2 := h.stk r
      have g2 : SameX [lT, lS] H (upd H1 lS (.lst (r.reverse.map V.int))) := g.trans (SameX.put (by simp) _)
      have hm2 := hm0 g2
      refine ⟨_, rfl, x, dx, _, rfl, h2.o, lyF_no _ _ (by decide +kernel) (by decide +kernel), ?_⟩
      refine ⟨_, rfl, m, _, _, _, rfl, rfl, SqT.of hm2, rfl, _, rfl, m, _, _, _, rfl, rfl, SqT.of hm2, rfl, ?_⟩
      refine ⟨x, dx, lT, lS, _, "}", mk.line, mk.col, rfl, ⟨as, h2⟩, by show td.length < sizeLine; omega, fun H3 g3 h3 => ?_⟩
      refine ⟨_, by show r.length < (c :: r).length; rw [List.length_cons]; omega, rfl, g2.trans g3, h3, hf, er, ?_⟩
      show (td.length + 1) + r.length ≤ _
      omega
  · have c2 : ¬ mk.col < c := of_decide_eq_false (Bool.eq_false_iff.mpr c1)
    unfold folF at hf
    rw [if_neg (show ¬ c > mk.col from c2)] at hf
    refine ⟨_, rfl, x, C, dx, _, _, rfl, h.o, T.cl, T.nS, lyF_stack _ _, _, rfl, lS, _, _, _, rfl, rfl, SqL.of h.sk, rev_at _ _, ?_⟩
    refine ⟨_, rfl, m, _, _, _, rfl, rfl, SqT.of hm1, rfl, rfl, _, rfl, ?_⟩
    refine ite2 (fun c3 => ?_) (fun c3 => ?_)
    · have c4 : V.int c = V.int mk.col := of_decide_eq_true c3
      injection c4 with c5
      rw [if_pos c5] at hf
      refine ⟨_, rfl, x, dx, _, rfl, h.o, lyF_no _ _ (by decide +kernel) (by decide +kernel), ?_⟩
      refine ⟨_, rfl, m, _, _, _, rfl, rfl, SqT.of hm1, rfl, _, rfl, m, _, _, _, rfl, rfl, SqT.of hm1, rfl, ?_⟩
      refine ⟨x, dx, lT, lS, _, ";", mk.line, mk.col, rfl, ⟨as, h⟩, by show td.length < sizeLine; omega, fun H3 g3 h3 => ?_⟩
      exact q1 _ hf.symm H3 (g.trans g3) h3
    · have c4 : ¬ (V.int c = V.int mk.col) := of_decide_eq_false (Bool.eq_false_iff.mpr c3)
      rw [if_neg (fun e => c4 (by rw [e]))] at hf
      exact q1 _ hf.symm H1 g ⟨as, h⟩

/-! ### Layout.bracket -/
def spBrk (C CT : Addr) : Sp := fun vs H Q E => ∃ (x dx lT lS m : Addr) (s : Lay) (mk : Mrk), vs = [.ref x, .ref m] ∧ Ly C x dx lT lS H s ∧ MkAt H m mk ∧ s.st.length ≤ 24 ∧ s.td.length + 40 ≤ sizeLine ∧
  (∀ s', brkF mk s = some s' → ∀ H', SameX [lT, lS] H H' → Ly C x dx lT lS H' s' → Q .non H') ∧ (brkF mk s = none → Rz E [lT, lS] CT H)
theorem scBrk : FnScope ["self", "mark"] ["self", "mark"] (defScope sLyBrk) := ⟨rfl, rfl, rfl, by decide +kernel, rfl, by decide +kernel, by decide +kernel⟩
theorem str_dec {a b : Str} : decide (V.str a = V.str b) = decide (a = b) := by
  congr 1
  apply propext
  constructor
  · intro h
    injection h
  · intro h
    rw [h]
theorem ok_brk {f fL fG C CN CT fB : Addr} {fd fdL fdG fdB : FuncData} (F : Fun K "bracket" "Layout.bracket" sLyBrk f fd) (T : LyC K C) (X : LyX P w K mg base CN CT fB fdB)
    (ML : Mt K C "lay" "Layout.lay" sLyLay fL fdL ["self", "sign", "line", "column"]) (MG : Mt K C "begin" "Layout.begin" sLyBegin fG fdG ["self", "column", "mark"]) : FnOk P w K mg base (L2N.CX P w) 4 f fd ["self", "mark"] (spBrk C CT) := by
  have GL : FnOk P w K mg base CX0 1 fL fdL ["self", "sign", "line", "column"] (spLay C) := ok_lay ML.F T
  have GG : FnOk P w K mg base (L2N.CX P w) 3 fG fdG ["self", "column", "mark"] (spBegin C CT) := ok_begin MG.F T X
  obtain ⟨tB, gB⟩ := X.brk
  refine F.okXN scBrk (fun vs H Q E h => ?_) (fun cdv A outer s H vs Q E hr h => ?_)
  · obtain ⟨x, dx, lT, lS, m, s, mk, rfl, _⟩ := h
    rfl
  obtain ⟨x, dx, lT, lS, m, s, mk, rfl, hL, hm, h24, htd, q1, q2⟩ := h
  have hm : H m = some (.tup mk.v) := hm
  have hr1 : Room 1 _ := hr.mono (by decide)
  refine ⟨_, pss_one (ps_if (pt_cmpR op_eq (pe_ix ix_tup (pv 1) pe_int (fun _ _ => rfl)) pe_str (nomark _))
    (pss_one (ps_expr (pe_meth (pv 0) T.cl MG.m GG hr MG.b .nil (L2N.passes_call (L2N.takes_of rfl rfl rfl rfl) fun _ _ _ _ h => h) (pa_cons (pe_glob (v := .int (-1)) rfl gB ⟨_, rfl⟩) (pa_cons (pv 1) pa_nil)))))
    (pss_one (ps_if (PW.pt (pw_and (pt_cmpR op_eq (pe_ix ix_tup (pv 1) pe_int (fun _ _ => rfl)) pe_str (nomark _)) (pw_and1 (pt_cmpR op_in_seq (pe_glob (v := .int (-1)) rfl gB ⟨_, rfl⟩) (pe_fld (pv 0) rfl) (by rfl)))))
      (pss_cons (ps_while (passes_of rfl) (pt_cmpR op_ne (pe_ix ix_list (pe_fld (pv 0) rfl) (pe_un un_neg pe_int) (fun _ _ => rfl)) (pe_glob (v := .int (-1)) rfl gB ⟨_, rfl⟩) (nomark _))
        (pss_cons (ps_expr (pe_bm0 PySem.F.plainAttrs_list PySem.F.slot_list_pop PySem.F.type_list_pop mt_pop (pe_fld (pv 0) rfl)))
        (pss_one (ps_expr (pe_meth (pv 0) T.cl ML.m GL hr1 ML.b .nil pass0 (pa_cons pe_str (pa_cons (pe_ix ix_tup (pv 1) pe_int (fun _ _ => rfl)) (pa_cons (pe_ix ix_tup (pv 1) pe_int (fun _ _ => rfl)) pa_nil))))))))
      (pss_one (ps_expr (pe_bm0 PySem.F.plainAttrs_list PySem.F.slot_list_pop PySem.F.type_list_pop mt_pop (pe_fld (pv 0) rfl))))) pss_nil))), ?_⟩
  have hm0 : ∀ {H1 : Hp}, SameX [lT, lS] H H1 → H1 m = some (.tup mk.v) := fun k => by
    obtain ⟨as, h⟩ := hL
    exact h.tup k hm
  obtain ⟨as, h⟩ := id hL
  refine ⟨_, rfl, m, _, _, _, rfl, rfl, SqT.of hm, rfl, rfl, _, rfl, ?_⟩
  rw [str_dec]
  unfold brkF at q1 q2
  refine ite2 (fun c1 => ?_) (fun c1 => ?_)
  · have c2 : mk.word = ("(" : Str) := of_decide_eq_true c1
    rw [if_pos c2] at q1 q2
    refine ⟨_, rfl, x, dx, _, rfl, h.o, lyF_no _ _ (by decide +kernel) (by decide +kernel), _, rfl, ?_⟩
    refine ⟨x, dx, lT, lS, m, s, -1, mk, rfl, hL, hm, h24, fun hne H1 g1 h1 => ?_, fun he => ?_⟩
    · rw [if_neg hne] at q1
      exact q1 _ rfl H1 g1 h1
    · rw [if_pos he] at q2
      exact q2 rfl
  · have c2 : ¬ mk.word = ("(" : Str) := of_decide_eq_false (Bool.eq_false_iff.mpr c1)
    rw [if_neg c2] at q1 q2
    refine ⟨_, rfl, m, _, _, _, rfl, rfl, SqT.of hm, rfl, rfl, _, rfl, ?_⟩
    rw [str_dec]
    by_cases h3 : mk.word = (")" : Str)
    · rw [decide_eq_true h3]
      refine iteT ?_
      refine ⟨_, rfl, x, C, dx, _, _, rfl, h.o, T.cl, T.nS, lyF_stack _ _, ?_⟩
      refine ⟨lS, _, rfl, .inl (SqL.of h.sk), rfl, flat_ints _, _, rfl, ?_⟩
      rw [rev_in]
      by_cases h4 : (-1) ∈ s.st
      · rw [decide_eq_true h4]
        refine iteT ?_
        rw [if_pos ⟨h3, h4⟩] at q1 q2
        generalize hres : popF mk s.st s.td = res at q1
        refine ⟨fun n σ H1 => ∃ s1 : Lay, n = s1.st.length ∧ σ = [some (.ref x), some (.ref m)] ∧ SameX [lT, lS] H H1 ∧ Ly C x dx lT lS H1 s1 ∧ popF mk s1.st s1.td = res ∧ (-1) ∈ s1.st ∧ s1.td.length + s1.st.length ≤ s.td.length + s.st.length,
          ⟨_, s, rfl, rfl, SameX.refl _ _, hL, hres, h4, Nat.le_refl _⟩, ?_⟩
        rintro n σ H1 ⟨⟨st, td⟩, rfl, rfl, g, ⟨as1, h1⟩, hf, hn1, hz⟩
        cases st with
        | nil => cases hn1
        | cons c r =>
        have hm1 := hm0 g
        have hz : td.length + (c :: r).length ≤ s.td.length + s.st.length := hz
        have hf : popF mk (c :: r) td = res := hf
        rw [List.length_cons] at hz
        refine ⟨_, rfl, x, C, dx, _, _, rfl, h1.o, T.cl, T.nS, lyF_stack _ _, _, rfl, lS, _, _, _, rfl, rfl, SqL.of h1.sk, rev_at _ _, rfl, _, rfl, ?_⟩
        have e0 : ((⟨c :: r, td⟩ : Lay).st.reverse.map V.int).dropLast = r.reverse.map V.int := rev_pop c r
        by_cases h5 : c = -1
        · subst h5
          refine iteF ?_
          refine ⟨_, rfl, x, C, dx, _, _, rfl, h1.o, T.cl, T.nS, lyF_stack _ _, .inl ⟨rfl, _, SqL.of h1.sk⟩, lS, _, _, rfl, rfl, h1.sk, rev_last _ _, ?_⟩
          rw [e0]
          have hf2 : (⟨r, td⟩ : Lay) = res := hf
          exact q1 _ (congrArg some hf2.symm) _ (g.trans (SameX.put (by simp) _)) ⟨as1, h1.stk r⟩
        · have e5 : (!decide (V.int c = V.int (-1))) = true := by
            rw [decide_eq_false (fun z => h5 (by injection z))]
            rfl
          show (if (!decide (V.int c = V.int (-1))) = true then _ else _)
          rw [e5]
          refine iteT ?_
          unfold popF at hf
          rw [if_neg h5] at hf
          refine ⟨fun σ2 H2 => ∃ s2 : Lay, s2.st.length < (c :: r).length ∧ σ2 = [some (.ref x), some (.ref m)] ∧ SameX [lT, lS] H H2 ∧ Ly C x dx lT lS H2 s2 ∧ popF mk s2.st s2.td = res ∧ (-1) ∈ s2.st ∧ s2.td.length + s2.st.length ≤ s.td.length + s.st.length, ?_, ?_⟩
          · rintro σ2 H2 ⟨s2, h0, h1⟩
            exact ⟨_, h0, s2, rfl, h1⟩
          refine ⟨_, rfl, x, C, dx, _, _, rfl, h1.o, T.cl, T.nS, lyF_stack _ _, .inl ⟨rfl, _, SqL.of h1.sk⟩, lS, _, _, rfl, rfl, h1.sk, rev_last _ _, ?_⟩
          rw [e0]
          have h2 := h1.stk r
          have g2 : SameX [lT, lS] H (upd H1 lS (.lst (r.reverse.map V.int))) := g.trans (SameX.put (by simp) _)
          have hm2 := hm0 g2
          refine ⟨_, rfl, x, dx, _, rfl, h2.o, lyF_no _ _ (by decide +kernel) (by decide +kernel), ?_⟩
          refine ⟨_, rfl, m, _, _, _, rfl, rfl, SqT.of hm2, rfl, _, rfl, m, _, _, _, rfl, rfl, SqT.of hm2, rfl, ?_⟩
          refine ⟨x, dx, lT, lS, _, "}", mk.line, mk.col, rfl, ⟨as1, h2⟩, by show td.length < sizeLine; omega, fun H3 g3 h3 => ?_⟩
          refine ⟨_, by show r.length < (c :: r).length; rw [List.length_cons]; omega, rfl, g2.trans g3, h3, hf, ?_, ?_⟩
          · rcases List.mem_cons.mp hn1 with e | e
            · exact absurd e.symm h5
            · exact e
          · show (td.length + 1) + r.length ≤ _
            omega
      · rw [decide_eq_false h4]
        refine iteF ?_
        rw [if_neg (fun z => h4 z.2)] at q1
        exact q1 _ rfl H (SameX.refl _ _) hL
    · rw [decide_eq_false h3]
      refine iteF ?_
      rw [if_neg (fun z => h3 z.1)] at q1
      exact q1 _ rfl H (SameX.refl _ _) hL
end
end TP
set_option maxRecDepth 100000
set_option maxHeartbeats 4000000
namespace TP
open PySem L2
theorem cnt_count (c : Nat) : ∀ l : List Nat, PyProof.Rows.cnt c l = ((l.count c : Nat) : Int)
  | [] => rfl
  | n :: r => by
    rw [PyProof.Rows.cnt_cons, cnt_count c r, List.count_cons]
    by_cases h : n = c
    · subst h
      simp
      omega
    · have : (n == c) = false := by simpa using h
      rw [if_neg h, this]
      simp
theorem count_nl (z : Str) : Txt.count z ("\n" : Str) = (((tl z).count 10 : Nat) : Int) := by
  have e : ("\n" : Str) = ⟨#[10]⟩ := by decide +kernel
  rw [e, PyProof.Rows.count_cnt]
  exact cnt_count 10 _
section
variable {P : Program} {w : World} {K : PySem.W.Frag} {mg : Str → Option Value} {base : Heap}
/-! ### Layout.put -/
/-- the mark ahead, or None -/
def AhV (H : Hp) : V → Option Mrk → Prop
  | v, none => v = .non
  | v, some m => ∃ a, v = .ref a ∧ MkAt H a m
def spPut (C CN CT : Addr) : Sp := fun vs H Q E => ∃ (x dx lT lS m : Addr) (s : Lay) (mk : Mrk) (av : V) (ah : Option Mrk), vs = [.ref x, .ref m, av] ∧ Ly C x dx lT lS H s ∧ MkAt H m mk ∧ AhV H av ah ∧ 0 ≤ mk.col ∧ (ah ≠ none → s.st ≠ []) ∧ s.st.length ≤ 24 ∧ s.td.length + 100 ≤ sizeLine ∧
  (∀ s', putF mk ah s = some s' → ∀ H', SameX [lT, lS] H H' → Ly C x dx lT lS H' s' → Q .non H') ∧ (putF mk ah s = none → Rz E [lT, lS] CN H ∧ Rz E [lT, lS] CT H)
theorem scPut : FnScope ["self", "mark", "ahead"] ["self", "mark", "ahead"] (defScope sLyPut) := ⟨rfl, rfl, rfl, by decide +kernel, rfl, by decide +kernel, by decide +kernel⟩
/-- the last two statements of put -/
abbrev putTail (K : PySem.W.Frag) (C CT : Addr) (E : XK) (Q : VK) : St → Hp → Prop :=
  tSeq (tIfS (tTest (tOp rEq (tOp (rIxT K) (tVar 1) (tC (.int 0))) (tC (.str "sign")))) (tDrop (tMeth C "bracket" (spBrk C CT) [] E (tVar 0) (tCons (tVar 1) tNil))) tNext)
    (tDrop (tBM K "list" rAppend (tFld K (tVar 0) "told") (tCons (tVar 1) tNil))) { nx := fun _ H' => Q .non H', rt := Q }
theorem inV_pair {x a b : Str} : inV (.str x) [.str a, .str b] = (decide (x = a) || decide (x = b)) := by
  have := str_in (x := x) (xs := [a, b])
  have e : inV (.str x) [.str a, .str b] = decide (x ∈ [a, b]) := this
  rw [e]
  simp
theorem ok_put {f fL fG fK fF fR C CN CT fB : Addr} {fd fdL fdG fdK fdF fdR fdB : FuncData} (F : Fun K "put" "Layout.put" sLyPut f fd) (T : LyC K C) (X : LyX P w K mg base CN CT fB fdB)
    (ML : Mt K C "lay" "Layout.lay" sLyLay fL fdL ["self", "sign", "line", "column"]) (MG : Mt K C "begin" "Layout.begin" sLyBegin fG fdG ["self", "column", "mark"])
    (MK : Mt K C "block" "Layout.block" sLyBlock fK fdK ["self", "mark"]) (MF : Mt K C "first_of_line" "Layout.first_of_line" sLyFirst fF fdF ["self", "mark"]) (MR : Mt K C "bracket" "Layout.bracket" sLyBrk fR fdR ["self", "mark"]) :
    FnOk P w K mg base (L2N.CX P w) 5 f fd ["self", "mark", "ahead"] (spPut C CN CT) := by
  have GK : FnOk P w K mg base (L2N.CX P w) 4 fK fdK ["self", "mark"] (spBlk C CN CT) := ok_blk MK.F T X ML MG
  have GF : FnOk P w K mg base (L2N.CX P w) 3 fF fdF ["self", "mark"] (spFst C CN) := ok_fst MF.F T X ML
  have GR : FnOk P w K mg base (L2N.CX P w) 4 fR fdR ["self", "mark"] (spBrk C CT) := ok_brk MR.F T X ML MG
  refine F.okXN scPut (fun vs H Q E h => ?_) (fun cdv A outer s H vs Q E hr h => ?_)
  · obtain ⟨x, dx, lT, lS, m, s, mk, av, ah, rfl, _⟩ := h
    rfl
  obtain ⟨x, dx, lT, lS, m, s, mk, av, ah, rfl, hL, hm, ha, hc, hne, h24, htd, q1, q2⟩ := h
  have hm : H m = some (.tup mk.v) := hm
  have hr3 : Room 3 _ := hr.mono (by decide)
  refine ⟨_, pss_cons (ps_if (PW.pt (pw_or (pt_cmpR op_isN (pv 2) pe_non (nomark _)) (pw_or1 (PW.pt (pw_and (pt_cmpR op_eq (pe_ix ix_tup (pv 2) pe_int (fun _ _ => rfl)) pe_str (nomark _)) (pw_and1 (pt_cmpR op_in_seq (pe_ix ix_tup (pv 2) pe_int (fun _ _ => rfl)) (pe_tup (pa_cons pe_str (pa_cons pe_str pa_nil))) (by rfl))))))))
      (pss_one (ps_expr (pe_meth (pv 0) T.cl MK.m GK hr MK.b .nil (L2N.passes_call (L2N.takes_of rfl rfl rfl rfl) fun _ _ _ _ h => h) (pa_cons (pv 1) pa_nil))))
      (pss_one (ps_if (pt_cmpR op_gt (pe_ix ix_tup (pv 1) pe_int (fun _ _ => rfl)) (pe_ix ix_tup (pv 2) pe_int (fun _ _ => rfl)) (nomark _))
        (pss_one (ps_expr (pe_meth (pv 0) T.cl MF.m GF hr3 MF.b .nil (L2N.passes_call (L2N.takes_of rfl rfl rfl rfl) fun _ _ _ _ h => h) (pa_cons (pv 1) pa_nil)))) pss_nil)))
    (pss_cons (ps_if (pt_cmpR op_eq (pe_ix ix_tup (pv 1) pe_int (fun _ _ => rfl)) pe_str (nomark _))
      (pss_one (ps_expr (pe_meth (pv 0) T.cl MR.m GR hr MR.b .nil (L2N.passes_call (L2N.takes_of rfl rfl rfl rfl) fun _ _ _ _ h => h) (pa_cons (pv 1) pa_nil)))) pss_nil)
    (pss_one (ps_expr (pe_bm PySem.F.plainAttrs_list PySem.F.slot_list_append PySem.F.type_list_append mt_append (pe_fld (pv 0) rfl) (pa_cons (pv 1) pa_nil))))), ?_⟩
  have hm0 : ∀ {H1 : Hp}, SameX [lT, lS] H H1 → H1 m = some (.tup mk.v) := fun k => by
    obtain ⟨as, h⟩ := hL
    exact h.tup k hm
  -- the last two statements, from a state entered by s1
  have tail : ∀ (s1 : Lay) (H1 : Hp), enterF mk ah s = some s1 → SameX [lT, lS] H H1 → Ly C x dx lT lS H1 s1 →
      putTail K C CT E Q [some (.ref x), some (.ref m), some av] H1 := by
    intro s1 H1 he g hL1
    have hm1 := hm0 g
    have sz := enterF_size he h24
    have last : ∀ (s2 : Lay) (H2 : Hp), (if mk.kind = "sign" then brkF mk s1 else some s1) = some s2 → SameX [lT, lS] H H2 → Ly C x dx lT lS H2 s2 → (tDrop (tBM K "list" rAppend (tFld K (tVar 0) "told") (tCons (tVar 1) tNil))) { nx := fun _ H' => Q .non H', rt := Q } [some (.ref x), some (.ref m), some av] H2 := by
      intro s2 H2 hb g2 hL2
      obtain ⟨as2, h2⟩ := hL2
      have hm2 := hm0 g2
      have sz2 := brkF_size hb sz.2
      have la : as2.length = s2.td.length := by rw [Paired.length h2.m, List.length_reverse]
      refine ⟨_, rfl, x, C, dx, _, _, rfl, h2.o, T.cl, T.nT, lyF_told _ _, .inl ⟨rfl, _, SqL.of h2.t⟩, _, rfl, lT, _, _, rfl, rfl, h2.t, by rw [List.length_map]; omega, ?_⟩
      refine q1 ⟨s2.st, mk :: s2.td⟩ ?_ _ (g2.trans (SameX.put (by simp) _)) ⟨_, h2.tell hm2⟩
      unfold putF
      rw [he]
      show Option.map _ (if mk.kind = "sign" then brkF mk s1 else some s1) = _
      rw [hb]
      rfl
    refine ⟨_, rfl, m, _, _, _, rfl, rfl, SqT.of hm1, rfl, rfl, _, rfl, ?_⟩
    rw [str_dec]
    refine ite2 (fun c => ?_) (fun c => ?_)
    · have c2 : mk.kind = ("sign" : Str) := of_decide_eq_true c
      obtain ⟨as1, h1⟩ := id hL1
      refine ⟨_, rfl, x, dx, _, rfl, h1.o, lyF_no _ _ (by decide +kernel) (by decide +kernel), _, rfl, ?_⟩
      refine ⟨x, dx, lT, lS, m, s1, mk, rfl, hL1, hm1, sz.2, by omega, fun s2 hb H2 g2 h2 => ?_, fun hb => ?_⟩
      · exact last s2 H2 (by rw [if_pos c2]; exact hb) (g.trans g2) h2
      · refine ((q2 ?_).2).step g
        unfold putF
        rw [he]
        show Option.map _ (if mk.kind = "sign" then brkF mk s1 else some s1) = _
        rw [if_pos c2, hb]
        rfl
    · have c2 : ¬ mk.kind = ("sign" : Str) := of_decide_eq_false (Bool.eq_false_iff.mpr c)
      exact last s1 H1 (by rw [if_neg c2]) g hL1
  have bad : enterF mk ah s = none → Rz E [lT, lS] CN H ∧ Rz E [lT, lS] CT H := fun he => q2 (by unfold putF; rw [he]; rfl)
  obtain ⟨as, h⟩ := id hL
  have blk : ∀ {H0 : Hp}, Same H H0 → (enterF mk ah s = blockF mk s) → (tDrop (tMeth C "block" (spBlk C CN CT) [] E (tVar 0) (tCons (tVar 1) tNil))) { nx := putTail K C CT E Q, rt := Q } [some (.ref x), some (.ref m), some av] H0 := fun {H0} g0 eb => by
    have h0 := h.grow g0
    refine ⟨_, rfl, x, dx, _, rfl, h0.o, lyF_no _ _ (by decide +kernel) (by decide +kernel), _, rfl, ?_⟩
    refine ⟨x, dx, lT, lS, m, s, mk, rfl, ⟨as, h0⟩, g0 _ _ hm, hc, h24, by omega, fun s1 e1 H1 g1 h1 => ?_, fun e1 => ?_⟩
    · exact tail s1 H1 (eb.trans e1) ((SameX.of g0).trans g1) h1
    · have z := bad (eb.trans e1)
      exact ⟨z.1.step (SameX.of g0), z.2.step (SameX.of g0)⟩
  refine ⟨_, rfl, rfl, _, rfl, ?_⟩
  cases ah with
  | none =>
    obtain rfl : av = .non := ha
    refine iteT ?_
    refine iteT ?_
    exact blk (fun _ _ e => e) rfl
  | some am =>
    obtain ⟨a, rfl, ham⟩ := ha
    have ham : H a = some (.tup am.v) := ham
    refine iteF ?_
    refine ⟨_, rfl, a, _, _, _, rfl, rfl, SqT.of ham, rfl, rfl, _, rfl, ?_⟩
    rw [str_dec]
    -- what stands behind a mark that opens no block
    have noop : ∀ {H0 : Hp}, Same H H0 → opener am = false → (tIfS (tTest (tOp (rI0 fun i j => .bl (decide (j < i))) (tOp (rIxT K) (tVar 1) (tC (.int 2))) (tOp (rIxT K) (tVar 2) (tC (.int 2))))) (tDrop (tMeth C "first_of_line" (spFst C CN) [] E (tVar 0) (tCons (tVar 1) tNil))) tNext)
        { nx := putTail K C CT E Q, rt := Q } [some (.ref x), some (.ref m), some (.ref a)] H0 := fun {H0} g0 ho => by
      have h0 := h.grow g0
      refine ⟨_, rfl, m, _, _, _, rfl, rfl, SqT.of (g0 _ _ hm), rfl, _, rfl, a, _, _, _, rfl, rfl, SqT.of (g0 _ _ ham), rfl, _, _, rfl, rfl, _, rfl, ?_⟩
      refine ite2 (fun c => ?_) (fun c => ?_)
      · have c2 : am.line < mk.line := of_decide_eq_true c
        have ee : enterF mk (some am) s = folF mk s.st s.td := by
          show (if opener am = true then _ else if am.line < mk.line then _ else _) = _
          rw [ho, if_neg Bool.false_ne_true, if_pos c2]
        refine ⟨_, rfl, x, dx, _, rfl, h0.o, lyF_no _ _ (by decide +kernel) (by decide +kernel), _, rfl, ?_⟩
        refine ⟨x, dx, lT, lS, m, s, mk, rfl, ⟨as, h0⟩, g0 _ _ hm, hc, hne (by simp), h24, by omega, fun s1 e1 H1 g1 h1 => ?_, fun e1 => ?_⟩
        · exact tail s1 H1 (ee.trans e1) ((SameX.of g0).trans g1) h1
        · exact ((bad (ee.trans e1)).1).step (SameX.of g0)
      · have c2 : ¬ am.line < mk.line := of_decide_eq_false (Bool.eq_false_iff.mpr c)
        refine tail s H0 ?_ (SameX.of g0) ⟨as, h0⟩
        show (if opener am = true then _ else if am.line < mk.line then _ else _) = _
        rw [ho, if_neg Bool.false_ne_true, if_neg c2]
    by_cases hk : am.kind = ("key" : Str)
    · rw [decide_eq_true hk]
      refine iteT ?_
      refine ⟨_, rfl, a, _, _, _, rfl, rfl, SqT.of ham, rfl, by show 2 ≤ sizeLine; decide, fun p hp => ?_⟩
      have g0 : Same H (upd H p (.tup [.str "let", .str "of"])) := Same.new hp _
      refine ⟨p, _, rfl, .inr (SqT.of upd_same), rfl, rfl, _, rfl, ?_⟩
      show (if (inV (.str am.word) [.str "let", .str "of"]) = true then _ else _)
      rw [inV_pair]
      have eo : opener am = (decide (am.word = ("let" : Str)) || decide (am.word = ("of" : Str))) := by
        unfold opener
        rw [decide_eq_true hk, Bool.true_and]
      rw [← eo]
      cases ho : opener am with
      | true =>
        refine iteT ?_
        refine blk g0 ?_
        show (if opener am = true then _ else _) = _
        rw [ho, if_pos rfl]
      | false =>
        refine iteF ?_
        exact noop g0 ho
    · rw [decide_eq_false hk]
      refine iteF ?_
      refine iteF ?_
      refine noop (fun _ _ e => e) ?_
      unfold opener
      rw [decide_eq_false hk, Bool.false_and]

/-! ### laid -/
def spLaid (CM CN CT : Addr) : Sp := fun vs H Q E => ∃ z : Str, vs = [.str z] ∧ z.length ≤ 4000000 ∧
  (∀ fs, laidF (tl z) = some fs → fs.length ≤ sizeLine → ∀ (p : Addr) (as : List Addr) (H' : Hp), Same H H' → H p = none → H' p = some (.lst (as.map V.ref)) → MksAt H' as fs → Q (.ref p) H') ∧
  (laidF (tl z) = none → Rz E [] CM H ∧ Rz E [] CN H ∧ Rz E [] CT H)
theorem scLaid : FnScope ["text", "layout", "ahead", "mark", "column"] ["text"] (defScope sLaid) := ⟨rfl, rfl, rfl, by decide +kernel, rfl, by decide +kernel, by decide +kernel⟩
theorem ok_laid {f fI fP fM C CM CN CT fB : Addr} {fd fdI fdP fdM fdB : FuncData} (F : Fun K "laid" "laid" sLaid f fd) (T : LyC K C) (X : LyX P w K mg base CN CT fB fdB) (gC : mg "Layout" = some (.ref C))
    (M : Mk K C fI) (FI : Fun K "__init__" "Layout.__init__" sLyInit fI fdI) (bI : Binds K fdI ["self"] []) {fL : Addr} {fdL : FuncData} (ML : Mt K C "lay" "Layout.lay" sLyLay fL fdL ["self", "sign", "line", "column"])
    (MP : Mt K C "put" "Layout.put" sLyPut fP fdP ["self", "mark", "ahead"]) (GP : FnOk P w K mg base (L2N.CX P w) 5 fP fdP ["self", "mark", "ahead"] (spPut C CN CT))
    (DM : Df K mg "marks" sMarks fM fdM ["text"]) (GM : FnOk P w K mg base (L2N.CX P w) 4 fM fdM ["text"] (spMarks CM)) (mr : mg "reversed" = none) (ml : mg "list" = none) :
    FnOk P w K mg base (L2N.CX P w) 6 f fd ["text"] (spLaid CM CN CT) := by
  have GI : FnOk P w K mg base CX0 1 fI fdI ["self"] (spLyInit C) := ok_lyInit FI T
  have GL : FnOk P w K mg base CX0 1 fL fdL ["self", "sign", "line", "column"] (spLay C) := ok_lay ML.F T
  obtain ⟨tB, gB⟩ := X.brk
  refine F.okXN scLaid (fun vs H Q E h => ?_) (fun cdv A outer s H vs Q E hr h => ?_)
  · obtain ⟨z, rfl, _⟩ := h
    rfl
  obtain ⟨z, rfl, hz, q1, q2⟩ := h
  have hr4 : Room 4 _ := hr.mono (by decide)
  have hr2 : Room 2 _ := hr.mono (by decide)
  have hr1 : Room 1 _ := hr.mono (by decide)
  refine ⟨_, pss_cons (ps_set (i := 1) scLaid.nd rfl (Or.inl rfl) (pe_make0 M GI hr2 rfl gC bI .nil pass0))
    (pss_cons (ps_set (i := 2) scLaid.nd rfl (Or.inl rfl) pe_non)
    (pss_cons (ps_for (passes_of rfl) rfl (pi_list (pe_call GM hr4 rfl DM.g DM.F.kp DM.b .nil (L2N.passes_call (L2N.takes_of rfl rfl rfl rfl) fun _ _ _ _ h => h) (pa_cons (pv 0) pa_nil))) (pg_name (i := 3) scLaid.nd rfl (Or.inl rfl))
      (pss_cons (ps_expr (pe_meth (pv 1) T.cl MP.m GP hr MP.b .nil (L2N.passes_call (L2N.takes_of rfl rfl rfl rfl) fun _ _ _ _ h => h) (pa_cons (pv 3) (pa_cons (pv 2) pa_nil))))
      (pss_one (ps_set (i := 2) scLaid.nd rfl (Or.inl rfl) (pv 3)))))
    (pss_cons (ps_for (passes_of rfl) rfl (pi_reversed rfl mr (pa_cons (pe_fld (pv 1) rfl) pa_nil)) (pg_name (i := 4) scLaid.nd rfl (Or.inl rfl))
      (pss_one (ps_if (pt_cmpR op_ne (pv 4) (pe_glob (v := .int (-1)) rfl gB ⟨_, rfl⟩) (nomark _))
        (pss_one (ps_expr (pe_meth (pv 1) T.cl ML.m GL hr1 ML.b .nil pass0 (pa_cons pe_str (pa_cons (pe_op op_add (pe_m1 PySem.F.slot_str_count PySem.F.type_str_count mt_count (pv 0) pe_str) pe_int) (pa_cons pe_int pa_nil)))))) pss_nil)))
    (pss_one (ps_ret (pe_callTy call_list_of (by rfl) ml (by decide +kernel) (pa_cons (pe_fld (pv 1) rfl) pa_nil))))))), ?_⟩
  have lz : z.length = (tl z).length := TL.len_tl z
  intro x dx nx ndx nex
  have s0 : Same H (upd (upd H dx (.own x)) x (.ins C dx [])) := fun b o e => by
    rw [upd_ne (ne_of_none e nx), upd_ne (ne_of_none e ndx)]
    exact e
  refine ⟨x, dx, rfl, upd_same, fun lT lS H1 g1 nT nS h1 => ⟨rfl, ?_⟩⟩
  have sH1 : Same H H1 := fun b o e => g1 b o (s0 b o e) (by
    intro hb
    have : b = x := by simpa using hb
    rw [this, nx] at e
    cases e)
  have hlT : H lT = none := s0.free nT
  have hlS : H lS = none := s0.free nS
  -- everything of H stays while only the two lists change
  have keep : ∀ {H0 H2 : Hp}, Same H H0 → SameX [lT, lS] H0 H2 → Same H H2 := fun s1 g b o e => g b o (s1 b o e) (by
    intro hb
    simp only [List.mem_cons, List.not_mem_nil, or_false] at hb
    rcases hb with hb | hb
    · rw [hb, hlT] at e
      cases e
    · rw [hb, hlS] at e
      cases e)
  have rzk : ∀ {Cx : Addr} {H2 : Hp}, Rz E [] Cx H → Same H H2 → (∀ d H' l c, SameX [lT, lS] H2 H' → H' d = some (.xd (xfs l c)) → E (.ref Cx) (some d) H') := fun r s2 d H' l c k e => r d H' l c (SameX.of (keep s2 k)) e
  refine ⟨_, rfl, z, rfl, by rw [sizeLine_eq]; omega, fun ms hms hmsl pM asM H2 g2 nM hM hMs => ?_, fun hms d H' l c g3 n3 e3 => ?_⟩
  · -- the marks are there
    have hk := marksF_ok hms
    have laidE : laidF (tl z) = (runF ms none ⟨[], []⟩).map fun s => (closeF (cntT (tl z)) s.st s.td).reverse := by
      unfold laidF
      rw [hms]
      rfl
    have sH2 : Same H H2 := sH1.trans g2
    have h2 := h1.grow g2
    have lenM : asM.length = ms.length := Paired.length hMs
    refine ⟨pM, rfl, ⟨_, SqL.of hM⟩, for_list (K := K) (a := pM) (xs := asM.map V.ref) (fun i σ H' => ∃ (s : Lay) (ah : Option Mrk) (av : V) (v3 v4 : Option V), σ = [some (.str z), some (.ref x), some av, v3, v4] ∧ Same H H' ∧ Ly C x dx lT lS H' s ∧ H' pM = some (.lst (asM.map V.ref)) ∧ MksAt H' asM ms ∧ pM ≠ lT ∧ pM ≠ lS ∧
        AhV H' av ah ∧ (ah = none ∧ s.st = [] ∨ Bot s.st) ∧ runF ms none ⟨[], []⟩ = runF (ms.drop i) ah s ∧ s.st.length ≤ 24 ∧ s.td.length + s.st.length ≤ 4 * i)
      ⟨⟨[], []⟩, none, .non, none, none, rfl, sH2, ⟨_, h2⟩, hM, hMs, (ne_of_none h1.t nM).symm, (ne_of_none h1.sk nM).symm, rfl, .inl ⟨rfl, rfl⟩, rfl, by simp, Nat.zero_le _⟩
      (fun i σ H' _ ⟨s, ah, av, v3, v4, _, _, _, h, _⟩ => SqL.of h) ?_ ?_⟩
    · rintro i y σ H3 hi ⟨s3, ah, av, v3, v4, rfl, sH3, ⟨as3, h3⟩, hM3, hMs3, nMT, nMS, hah, hbot, hrun, h24, hsz⟩
      obtain ⟨m, hm, rfl⟩ : ∃ m, asM[i]? = some m ∧ y = V.ref m := by
        rw [List.getElem?_map] at hi
        cases e : asM[i]? with
        | none => rw [e] at hi; cases hi
        | some m => rw [e] at hi; exact ⟨m, rfl, (Option.some.inj hi).symm⟩
      obtain ⟨mk, hmk, hmA⟩ := pair_get hMs3 hm
      have hmA : H3 m = some (.tup mk.v) := hmA
      obtain ⟨hlt, emk⟩ := List.getElem?_eq_some_iff.mp hmk
      have okm := hk mk (List.mem_of_getElem? hmk)
      rw [List.drop_eq_getElem_cons hlt, emk] at hrun
      have hrun : runF ms none ⟨[], []⟩ = (putF mk ah s3).bind fun s1 => runF (ms.drop (i + 1)) (some mk) s1 := hrun
      refine ⟨_, rfl, x, dx, _, rfl, h3.o, lyF_no _ _ (by decide +kernel) (by decide +kernel), _, rfl, _, rfl, ?_⟩
      refine ⟨x, dx, lT, lS, m, s3, mk, av, ah, rfl, ⟨as3, h3⟩, hmA, hah, okm.col, fun hn => ?_, h24, by rw [sizeLine_eq]; omega, fun s4 hp H4 g4 h4 => ?_, fun hp => ?_⟩
      · rcases hbot with ⟨e, _⟩ | e
        · exact absurd e hn
        · exact e.ne
      · have sz := putF_size hp h24
        have nin : ∀ {b : Addr} {xs : List V}, H3 b = some (.tup xs) → H4 b = some (.tup xs) := fun e => h3.tup g4 e
        refine ⟨_, rfl, ?_⟩
        refine ⟨s4, some mk, .ref m, _, _, rfl, keep sH3 g4, h4, g4 _ _ hM3 (by
          intro hb
          simp only [List.mem_cons, List.not_mem_nil, or_false] at hb
          rcases hb with hb | hb
          · exact nMT hb
          · exact nMS hb), hMs3.same fun b xs e => nin e, nMT, nMS, ⟨m, rfl, nin hmA⟩, .inr (Bot.put okm hbot hp), ?_, sz.2, by omega⟩
        rw [hrun, hp]
        rfl
      · have hn : laidF (tl z) = none := by rw [laidE, hrun, hp]; rfl
        exact ⟨rzk (q2 hn).2.1 sH3, rzk (q2 hn).2.2 sH3⟩
    · rintro σ H3 ⟨s3, ah, av, v3, v4, rfl, sH3, ⟨as3, h3⟩, hM3, hMs3, nMT, nMS, hah, hbot, hrun, h24, hsz⟩
      rw [List.length_map, lenM, List.drop_length] at hrun
      have hrun : runF ms none ⟨[], []⟩ = some s3 := hrun
      rw [List.length_map, lenM] at hsz
      rw [hrun] at laidE
      have laidE : laidF (tl z) = some (closeF (cntT (tl z)) s3.st s3.td).reverse := laidE
      refine ⟨_, rfl, x, C, dx, _, _, rfl, h3.o, T.cl, T.nS, lyF_stack _ _, lS, s3.st.reverse.map V.int, rfl, SqL.of h3.sk, ?_⟩
      refine for_it (walk_rev (K := K) (a := lS) (xs := s3.st.reverse.map V.int)) (fun i σ H' => ∃ (td : List Mrk) (v4 : Option V), σ = [some (.str z), some (.ref x), some av, v3, v4] ∧ Same H H' ∧ Ly C x dx lT lS H' ⟨s3.st, td⟩ ∧ closeF (cntT (tl z)) s3.st s3.td = closeF (cntT (tl z)) (s3.st.drop i) td ∧ td.length ≤ s3.td.length + i)
        ⟨s3.td, v4, rfl, sH3, ⟨as3, h3⟩, rfl, Nat.le_refl _⟩ (fun i σ H' _ ⟨td, v4, _, _, ⟨as, h⟩, _⟩ => SqL.of h.sk) ?_ ?_
      · rintro i y σ H4 H5 hi ⟨td, v4, rfl, sH4, ⟨as4, h4⟩, hcl, htd⟩ ⟨rfl, hy⟩
        have hi : i < s3.st.length := by rw [List.length_map, List.length_reverse] at hi; exact hi
        have ey : (s3.st)[i]? = some s3.st[i] := List.getElem?_eq_getElem hi
        have hy2 : y = V.int s3.st[i] := by
          rw [List.getElem?_map, List.length_map, List.length_reverse, List.getElem?_reverse (by omega), show s3.st.length - 1 - (s3.st.length - 1 - i) = i by omega, ey] at hy
          exact (Option.some.inj hy).symm
        subst hy2
        rw [List.drop_eq_getElem_cons hi] at hcl
        generalize s3.st[i] = c at hcl
        refine ⟨_, rfl, rfl, _, rfl, ?_⟩
        by_cases hc : c = -1
        · subst hc
          refine iteF ?_
          refine ⟨td, _, rfl, sH4, ⟨as4, h4⟩, hcl, by omega⟩
        · have e5 : (!decide (V.int c = V.int (-1))) = true := by
            rw [decide_eq_false (fun z => hc (by injection z))]
            rfl
          show (if (!decide (V.int c = V.int (-1))) = true then _ else _)
          rw [e5]
          refine iteT ?_
          refine ⟨_, rfl, x, dx, _, rfl, h4.o, lyF_no _ _ (by decide +kernel) (by decide +kernel), ?_⟩
          refine ⟨_, rfl, ⟨_, rfl⟩, _, _, rfl, rfl, _, _, rfl, rfl, ?_⟩
          rw [count_nl]
          refine ⟨x, dx, lT, lS, _, "}", _, _, rfl, ⟨as4, h4⟩, by show td.length < sizeLine; rw [sizeLine_eq]; omega, fun H6 g6 h6 => ?_⟩
          refine ⟨_, _, rfl, keep sH4 g6, h6, ?_, ?_⟩
          · rw [hcl]
            show closeF _ (c :: _) td = _
            conv => lhs; unfold closeF
            rw [if_neg hc]
            rfl
          · show td.length + 1 ≤ _
            omega
      · rintro σ H4 ⟨td, v4, rfl, sH4, ⟨as4, h4⟩, hcl, htd⟩
        rw [List.length_map, List.length_reverse, List.drop_length] at hcl
        have hcl : closeF (cntT (tl z)) s3.st s3.td = td := hcl
        rw [hcl] at laidE
        rw [List.length_map, List.length_reverse] at htd
        refine ⟨_, rfl, x, C, dx, _, _, rfl, h4.o, T.cl, T.nT, lyF_told _ _, lT, _, rfl, .inl (SqL.of h4.t), fun p hp => ?_⟩
        refine q1 td.reverse laidE (by rw [List.length_reverse, sizeLine_eq]; omega) p as4 _ (sH4.trans (Same.new hp _)) (sH4.free hp) upd_same (h4.m.same fun b xs e => ?_)
        rw [upd_ne (ne_of_none e hp)]
        exact e
  · have hn : laidF (tl z) = none := by unfold laidF; rw [hms]; rfl
    exact (q2 hn).1 d H' l c (SameX.of (sH1.trans g3)) e3
end
end TP
set_option maxRecDepth 100000
set_option maxHeartbeats 4000000
namespace TP
open PySem L2
/-! ### a text times a number -/
theorem op_mulStr {X : Cx} : OpR X (binaryOp .Mult) (fun x y H Q => ∃ (z : Str) (i : Int), x = .str z ∧ y = .int i ∧ z.length ≤ 16 ∧ 0 ≤ i ∧ i ≤ 1048576 ∧ Q (.str (Txt.mul z i)) H) := by
  intro pins s σ H x y v u Q I r1 r2 h
  obtain ⟨z, i, rfl, rfl, hz, h0, h1, q⟩ := h
  obtain ⟨t, rfl⟩ := r1
  obtain ⟨t', rfl⟩ := r2
  exact PySem.W.KXi.mul rfl hz (by omega) h1 fun t2 k _ _ => ⟨.str (Txt.mul z i), H, I.kept (t' := k) (fun _ _ e => e), ⟨t2, rfl⟩, q⟩
theorem foldl_rep {c : Nat} : ∀ (n : Nat) (acc : Array Nat), ((List.replicate n #[c]).foldl (· ++ ·) acc).toList = acc.toList ++ List.replicate n c
  | 0, acc => by simp
  | n + 1, acc => by
    rw [List.replicate_succ, List.foldl_cons, foldl_rep n, List.replicate_succ]
    simp
theorem mul_one_sign (c : Nat) (n : Nat) : tl (Txt.mul ⟨#[c]⟩ (n : Int)) = List.replicate n c := by
  unfold Txt.mul
  by_cases h : ((n : Nat) : Int) < 1
  · rw [if_pos h]
    have : n = 0 := by omega
    subst this
    rfl
  · rw [if_neg h]
    split
    · rename_i h2
      have h2 : (((n : Nat) : Int) == 1 || (⟨#[c]⟩ : Str).length == 0) = true := h2
      have : ((⟨#[c]⟩ : Str).length == 0) = false := rfl
      rw [this, Bool.or_false] at h2
      have h3 : ((n : Nat) : Int) = 1 := by simpa using h2
      have : n = 1 := by omega
      subst this
      rfl
    · show ((List.replicate (n : Int).toNat #[c]).foldl (· ++ ·) #[]).toList = _
      rw [Int.toNat_natCast, foldl_rep]
      rfl
theorem mul_zero (z : Str) : Txt.mul z 0 = ("" : Str) := by
  unfold Txt.mul
  rw [if_pos (by decide)]
  rfl
theorem mul_unit (z : Str) : Txt.mul z 1 = z := by
  unfold Txt.mul
  rw [if_neg (by decide)]
  rfl

/-! ### the draws -/
def DrAt (H : Hp) (d : Addr) : Prop := ∃ a b : Int, H d = some (.lst [.int a, .int b]) ∧ 0 ≤ b ∧ b < 2147483648
def spDraw : Sp := fun vs H Q _ => ∃ (d : Addr) (n : Int), vs = [.ref d, .int n] ∧ 0 < n ∧ n < 1000000 ∧ DrAt H d ∧ ∀ (v : Int) (H' : Hp), 0 ≤ v → v < n → SameX [d] H H' → DrAt H' d → Q (.int v) H'
section
variable {P : Program} {w : World} {K : PySem.W.Frag} {mg : Str → Option Value} {base : Heap}
theorem scDraw : FnScope ["draws", "many", "found", "wide"] ["draws", "many"] (defScope sDraw) := ⟨rfl, rfl, rfl, by decide +kernel, rfl, by decide +kernel, by decide +kernel⟩
theorem ok_draw {f : Addr} {fd : FuncData} (F : Fun K "_law_draw" "_law_draw" sDraw f fd) : FnOk P w K mg base CX0 1 f fd ["draws", "many"] spDraw := by
  refine F.ok scDraw (fun vs H Q E h => ?_) (fun cdv A outer s H vs Q E hr h => ?_)
  · obtain ⟨d, n, rfl, _⟩ := h
    rfl
  obtain ⟨d, n, rfl, hn, hn2, ⟨a, b, hd, hb0, hb1⟩, q⟩ := h
  refine ⟨_, pss_cons (ps_if (pt_cmpR op_gt (pe_ix ix_list (pv 0) pe_int (fun _ _ => rfl)) pe_int (nomark _))
      (pss_cons (ps_set (i := 2) scDraw.nd rfl (Or.inl rfl) (pe_op op_mod (pe_ix ix_list (pv 0) pe_int (fun _ _ => rfl)) (pv 1)))
      (pss_cons (ps_asg (pe_op op_fdiv (pe_ix ix_list (pv 0) pe_int (fun _ _ => rfl)) (pv 1)) (pg_sub (pv 0) pe_int set_list))
      (pss_one (ps_ret (pv 2))))) pss_nil)
    (pss_cons (ps_set (i := 2) scDraw.nd rfl (Or.inl rfl) pe_int)
    (pss_cons (ps_set (i := 3) scDraw.nd rfl (Or.inl rfl) pe_int)
    (pss_cons (ps_while PassesOwn.never (pt_cmpR op_lt (pv 3) (pv 1) (nomark _))
      (pss_cons (ps_asg (pe_op op_mod (pe_op op_mul (pe_ix ix_list (pv 0) pe_int (fun _ _ => rfl)) pe_int) pe_int) (pg_sub (pv 0) pe_int set_list))
      (pss_cons (ps_set (i := 2) scDraw.nd rfl (Or.inl rfl) (pe_op op_add (pe_op op_mul (pv 2) pe_int) (pe_op op_fdiv (pe_op op_mod (pe_op op_mul (pe_ix ix_list (pv 0) pe_int (fun _ _ => rfl)) (pe_op op_add (pe_op op_fdiv (pe_ix ix_list (pv 0) pe_int (fun _ _ => rfl)) pe_int) pe_int)) pe_int) pe_int)))
      (pss_one (ps_set (i := 3) scDraw.nd rfl (Or.inl rfl) (pe_op op_mul (pv 3) pe_int))))))
    (pss_one (ps_ret (pe_op op_mod (pv 2) (pv 1))))))), ?_⟩
  refine ⟨_, rfl, d, _, _, _, rfl, rfl, SqL.of hd, rfl, _, _, rfl, rfl, _, rfl, ?_⟩
  refine ite2 (fun c => ?_) (fun c => ?_)
  · refine ⟨_, rfl, d, _, _, _, rfl, rfl, SqL.of hd, rfl, _, rfl, _, _, rfl, rfl, hn, ?_⟩
    refine ⟨_, rfl, d, _, _, _, rfl, rfl, SqL.of hd, rfl, _, rfl, _, _, rfl, rfl, ⟨hn, by omega⟩, ?_⟩
    refine ⟨_, rfl, d, _, _, 0, rfl, rfl, hd, rfl, ?_⟩
    refine ⟨_, rfl, ?_⟩
    exact q _ _ (Int.emod_nonneg _ (by omega)) (Int.emod_lt_of_pos _ hn) (SameX.put (by simp) _) ⟨_, b, upd_same, hb0, hb1⟩
  · refine ⟨fun m σ H' => ∃ (a b fo wi : Int), m = (n - wi).toNat ∧ σ = [some (.ref d), some (.int n), some (.int fo), some (.int wi)] ∧ SameX [d] H H' ∧ H' d = some (.lst [.int a, .int b]) ∧ 0 ≤ b ∧ b < 2147483648 ∧ 1 ≤ wi, ⟨_, a, b, 0, 1, rfl, rfl, SameX.refl _ _, hd, hb0, hb1, Int.le_refl 1⟩, ?_⟩
    rintro m σ H' ⟨a, b, fo, wi, rfl, rfl, g, hd', hb0, hb1, hw⟩
    refine ⟨_, rfl, _, rfl, _, _, rfl, rfl, _, rfl, ?_⟩
    refine ite2 (fun c => ?_) (fun c => ?_)
    · have c2 : wi < n := of_decide_eq_true c
      refine ⟨fun σ2 H2 => ∃ (a b fo wi2 : Int), wi < wi2 ∧ σ2 = [some (.ref d), some (.int n), some (.int fo), some (.int wi2)] ∧ SameX [d] H H2 ∧ H2 d = some (.lst [.int a, .int b]) ∧ 0 ≤ b ∧ b < 2147483648 ∧ 1 ≤ wi2, ?_, ?_⟩
      · rintro σ2 H2 ⟨a, b, fo, wi2, h0, h1, h2, h3, h4, h5, h6⟩
        exact ⟨_, by omega, a, b, fo, wi2, rfl, h1, h2, h3, h4, h5, h6⟩
      have e0 : 0 ≤ b * 69621 % 2147483647 := Int.emod_nonneg _ (by decide)
      have e1 : b * 69621 % 2147483647 < 2147483647 := Int.emod_lt_of_pos _ (by decide)
      refine ⟨_, rfl, d, _, _, _, rfl, rfl, SqL.of hd', rfl, _, _, rfl, rfl, .inr ⟨by decide, by decide⟩, _, _, rfl, rfl, by show (0 : Int) < 2147483647; decide, ?_⟩
      refine ⟨_, rfl, d, _, _, 1, rfl, rfl, hd', rfl, ?_⟩
      have hd2 : upd H' d (.lst [.int a, .int (b * 69621 % 2147483647)]) d = some (.lst [.int a, .int (b * 69621 % 2147483647)]) := upd_same
      refine ⟨_, rfl, _, _, rfl, rfl, .inr ⟨by decide, by decide⟩, ?_⟩
      refine ⟨_, rfl, d, _, _, _, rfl, rfl, SqL.of hd2, rfl, _, rfl, d, _, _, _, rfl, rfl, SqL.of hd2, rfl, _, _, rfl, rfl, ⟨by decide, by decide⟩, _, _, rfl, rfl, _, _, rfl, rfl, .inl ⟨by omega, by omega⟩, _, _, rfl, rfl, by show (0 : Int) < 2147483629; decide, _, _, rfl, rfl, ⟨by decide, by decide⟩, _, _, rfl, rfl, ?_⟩
      refine ⟨_, rfl, _, _, rfl, rfl, .inr ⟨by decide, by decide⟩, ?_⟩
      refine ⟨a, _, _, wi * 268435456, by omega, rfl, g.trans (SameX.put (by simp) _), upd_same, e0, by omega, by omega⟩
    · refine ⟨_, rfl, _, rfl, _, _, rfl, rfl, hn, ?_⟩
      exact q _ _ (Int.emod_nonneg _ (by omega)) (Int.emod_lt_of_pos _ hn) g ⟨a, b, hd', hb0, hb1⟩

/-! ### _law_draws -/
def spDraws (K : PySem.W.Frag) : Sp := fun vs H Q _ => ∃ (a : Addr) (ns : List Int) (k : Nat), vs = [.ref a, .int (k : Nat)] ∧ SqL K H a (ns.map V.int) ∧ k < 1000 ∧ ∀ (p : Addr) (H' : Hp), Same H H' → H p = none → DrAt H' p → Q (.ref p) H'
theorem scDraws : FnScope ["script", "k", "cell"] ["script", "k"] (defScope sDraws) := ⟨rfl, rfl, rfl, by decide +kernel, rfl, by decide +kernel, by decide +kernel⟩
theorem ok_draws {f : Addr} {fd : FuncData} (F : Fun K "_law_draws" "_law_draws" sDraws f fd) (ml : mg "len" = none) (mi : mg "int" = none) : FnOk P w K mg base CX0 1 f fd ["script", "k"] (spDraws K) := by
  refine F.ok scDraws (fun vs H Q E h => ?_) (fun cdv A outer s H vs Q E hr h => ?_)
  · obtain ⟨a, ns, k, rfl, _⟩ := h
    rfl
  obtain ⟨a, ns, k, rfl, hS, hk, q⟩ := h
  refine ⟨_, pss_cons (ps_set (i := 2) scDraws.nd rfl (Or.inl rfl) (pe_op op_mul pe_int (pv 1)))
    (pss_cons (ps_if (pt_cmpR op_lt (pv 1) (pe_callB call_len_seq (by rfl) ml PySem.boot_len (pa_cons (pv 0) pa_nil)) (nomark _))
      (pss_one (ps_set (i := 2) scDraws.nd rfl (Or.inl rfl) (pe_op op_mod (pe_ix ix_list (pv 0) (pv 1) (fun _ _ => rfl)) (pe_op op_mulW (pe_op op_mulW (pe_op op_mulW (pe_op op_mulW (pe_op op_pow pe_int pe_int) (pe_op op_pow pe_int pe_int)) (pe_op op_pow pe_int pe_int)) (pe_op op_pow pe_int pe_int)) (pe_op op_pow pe_int pe_int)))))
      (pss_one (ps_if (pt_cmpR op_gt (pe_callB call_len_seq (by rfl) ml PySem.boot_len (pa_cons (pv 0) pa_nil)) pe_int (nomark _))
        (pss_one (ps_set (i := 2) scDraws.nd rfl (Or.inl rfl) (pe_op op_add (pe_op op_mod (pe_ix ix_list (pv 0) (pe_op op_mod (pv 1) (pe_callB call_len_seq (by rfl) ml PySem.boot_len (pa_cons (pv 0) pa_nil))) (fun _ _ => rfl)) (pe_op op_pow pe_int pe_int)) (pe_op op_mul pe_int (pv 1))))) pss_nil)))
    (pss_one (ps_ret (pe_lst (pa_cons (pe_op op_mul (pv 2) (pe_callTy call_int1 (by rfl) mi (by decide +kernel) (pa_cons (pe_cmpR op_ge (pv 2) (pe_op op_pow pe_int pe_int) (nomark _)) pa_nil)))
      (pa_cons (pe_op op_add pe_int (pe_op op_mod (pe_op op_add (pe_op op_mul (pv 2) pe_int) (pe_op op_mul pe_int (pe_op op_add (pv 1) pe_int))) pe_int)) pa_nil)))))), ?_⟩
  have small : ∀ i : Int, 0 ≤ i → i < 100000 → CMul 15485863 i := fun i h0 h1 => .inl ⟨by decide, by decide⟩
  have pw60 : CPow 10 60 := ⟨by decide, by decide, by decide⟩
  have pw15 : CPow 10 15 := ⟨by decide, by decide, by decide⟩
  have pw18 : CPow 10 18 := ⟨by decide, by decide, by decide⟩
  -- the end, from whatever cell
  have fin : ∀ cell : Int, tRet (tLst (tCons (tOp (rI CMul fun i j => .int (i * j)) (tVar 2) (tCB (fun xs H Q => (∃ i, xs = [.int i] ∧ Q (.int i) H) ∨ ∃ k, xs = [.bl k] ∧ Q (.int (if k then 1 else 0)) H) (tCons (tOp (rI0 fun i j => .bl (decide (j ≤ i))) (tVar 2) (tOp (rI CPow fun i j => .int (i ^ j.toNat)) (tC (.int 10)) (tC (.int 18)))) tNil)))
      (tCons (tOp (rI0 fun i j => .int (i + j)) (tC (.int 1)) (tOp (rI (fun _ j => 0 < j) fun i j => .int (i % j)) (tOp (rI0 fun i j => .int (i + j)) (tOp (rI CMul fun i j => .int (i * j)) (tVar 2) (tC (.int 69621))) (tOp (rI CMul fun i j => .int (i * j)) (tC (.int 86028121)) (tOp (rI0 fun i j => .int (i + j)) (tVar 1) (tC (.int 1))))) (tC (.int 2147483646)))) tNil)))
      { nx := fun _ H' => Q .non H', rt := Q } [some (.ref a), some (.int (k : Nat)), some (.int cell)] H := by
    intro cell
    refine ⟨_, rfl, _, rfl, _, _, rfl, rfl, pw18, _, _, rfl, rfl, .inr ⟨_, rfl, ?_⟩⟩
    refine ⟨_, _, rfl, rfl, .inr ?_, ?_⟩
    · split <;> exact ⟨by decide, by decide⟩
    refine ⟨_, rfl, _, _, rfl, rfl, .inr ⟨by decide, by decide⟩, _, rfl, _, _, rfl, rfl, _, _, rfl, rfl, .inl ⟨by decide, by decide⟩, _, _, rfl, rfl, _, _, rfl, rfl, by show (0 : Int) < 2147483646; decide, _, _, rfl, rfl, ?_⟩
    refine ⟨by show 2 ≤ sizeLine; decide, fun p hp => ?_⟩
    have e0 := Int.emod_nonneg (cell * 69621 + 86028121 * (((k : Nat) : Int) + 1)) (show (2147483646 : Int) ≠ 0 by decide)
    have e1 := Int.emod_lt_of_pos (cell * 69621 + 86028121 * (((k : Nat) : Int) + 1)) (show (0 : Int) < 2147483646 by decide)
    exact q p _ (Same.new hp _) hp ⟨_, _, upd_same, by omega, by omega⟩
  have hl : (ns.map V.int).length = ns.length := List.length_map _
  refine ⟨_, rfl, _, _, rfl, rfl, small _ (by omega) (by omega), ?_⟩
  refine ⟨_, rfl, _, rfl, a, _, rfl, .inl hS, _, _, rfl, rfl, _, rfl, ?_⟩
  refine ite2 (fun c => ?_) (fun c => ?_)
  · have c2 : ((k : Nat) : Int) < (((ns.map V.int).length : Nat) : Int) := of_decide_eq_true c
    rw [hl] at c2
    have hk2 : k < ns.length := by omega
    have hg : (ns.map V.int)[k]? = some (.int ns[k]) := by rw [List.getElem?_map, List.getElem?_eq_getElem hk2]; rfl
    refine ⟨_, rfl, _, rfl, a, _, _, _, rfl, rfl, hS, atI_nat hg, ?_⟩
    have P1 : (10 : Int) ^ (60 : Int).toNat = 10 ^ 60 := rfl
    have b1 : ((10 : Int) ^ (60 : Int).toNat).natAbs < 2 ^ 200 := by decide +kernel
    have b2 : ((10 : Int) ^ (60 : Int).toNat * 10 ^ (60 : Int).toNat).natAbs < 2 ^ 400 := by decide +kernel
    have b3 : ((10 : Int) ^ (60 : Int).toNat * 10 ^ (60 : Int).toNat * 10 ^ (60 : Int).toNat).natAbs < 2 ^ 600 := by decide +kernel
    have b4 : ((10 : Int) ^ (60 : Int).toNat * 10 ^ (60 : Int).toNat * 10 ^ (60 : Int).toNat * 10 ^ (60 : Int).toNat).natAbs < 2 ^ 800 := by decide +kernel
    have pos : (0 : Int) < 10 ^ (60 : Int).toNat * 10 ^ (60 : Int).toNat * 10 ^ (60 : Int).toNat * 10 ^ (60 : Int).toNat * 10 ^ (60 : Int).toNat := by decide +kernel
    refine ⟨_, _, rfl, rfl, pw60, _, _, rfl, rfl, pw60, _, _, rfl, rfl, wide_mul b1 b1 (by decide) (by decide) (by decide), _, _, rfl, rfl, pw60, _, _, rfl, rfl, wide_mul b2 b1 (by decide) (by decide) (by decide), _, _, rfl, rfl, pw60, _, _, rfl, rfl, wide_mul b3 b1 (by decide) (by decide) (by decide), _, _, rfl, rfl, pw60, _, _, rfl, rfl, wide_mul b4 b1 (by decide) (by decide) (by decide), _, _, rfl, rfl, pos, ?_⟩
    exact fin _
  · refine ⟨_, rfl, a, _, rfl, .inl hS, _, _, rfl, rfl, _, rfl, ?_⟩
    refine ite2 (fun c2 => ?_) (fun c2 => ?_)
    · have c3 : (0 : Int) < (((ns.map V.int).length : Nat) : Int) := of_decide_eq_true c2
      have m0 := Int.emod_nonneg ((k : Nat) : Int) (show (((ns.map V.int).length : Nat) : Int) ≠ 0 by omega)
      have m1 := Int.emod_lt_of_pos ((k : Nat) : Int) c3
      have hk2 : (((k : Nat) : Int) % (((ns.map V.int).length : Nat) : Int)).toNat < ns.length := by rw [hl] at m0 m1 ⊢; omega
      have hg : (ns.map V.int)[(((k : Nat) : Int) % (((ns.map V.int).length : Nat) : Int)).toNat]? = some (.int (ns[(((k : Nat) : Int) % (((ns.map V.int).length : Nat) : Int)).toNat]'hk2)) := by rw [List.getElem?_map, List.getElem?_eq_getElem hk2]; rfl
      refine ⟨_, rfl, _, rfl, _, rfl, a, _, rfl, .inl hS, _, _, rfl, rfl, c3, a, _, _, _, rfl, rfl, hS, atI_get m0 hg, ?_⟩
      refine ⟨_, _, rfl, rfl, pw15, _, _, rfl, rfl, by show (0 : Int) < 10 ^ Int.toNat 15; decide +kernel, _, rfl, _, _, rfl, rfl, small _ (by omega) (by omega), _, _, rfl, rfl, ?_⟩
      exact fin _
    · exact fin _

/-! ### _law_keys -/
def spKeys : Sp := fun vs H Q _ => vs = [] ∧ ∀ p, H p = none → Q (.ref p) (upd H p (.lst (keysS.map V.str)))
theorem scKeys : FnScope [] [] (defScope sKeys) := ⟨rfl, rfl, rfl, by decide +kernel, rfl, by decide +kernel, by decide +kernel⟩
theorem ok_keys {f : Addr} {fd : FuncData} (F : Fun K "_law_keys" "_law_keys" sKeys f fd) : FnOk P w K mg base CX0 1 f fd [] spKeys := by
  refine F.ok scKeys (fun vs H Q E h => ?_) (fun cdv A outer s H vs Q E hr h => ?_)
  · obtain ⟨rfl, _⟩ := h
    rfl
  obtain ⟨rfl, q⟩ := h
  refine ⟨_, pss_one (ps_ret (pe_lst (pa_cons pe_str (pa_cons pe_str (pa_cons pe_str (pa_cons pe_str (pa_cons pe_str (pa_cons pe_str (pa_cons pe_str (pa_cons pe_str (pa_cons pe_str (pa_cons pe_str pa_nil)))))))))))), ?_⟩
  exact ⟨by show 10 ≤ sizeLine; decide, fun p hp => q p hp⟩
end
end TP
set_option maxRecDepth 100000
set_option maxHeartbeats 4000000
namespace TP
open PySem L2
/-! ### the pen in the heap -/
def PenH (H : Hp) (p : Addr) (z : Str) (line col : Int) (fl : Bool) : Prop := H p = some (.lst [.str z, .int line, .int col, .bl fl])
theorem at_some {α : Type} {f : α → V} {xs : List α} {v : Int} (h0 : 0 ≤ v) (h1 : v < ((xs.length : Nat) : Int)) : ∃ x ∈ xs, atI (xs.map f) v = some (f x) := by
  have hv : v.toNat < xs.length := by omega
  exact ⟨xs[v.toNat], List.getElem_mem _, atI_get h0 (by rw [List.getElem?_map, List.getElem?_eq_getElem hv]; rfl)⟩
theorem dp_ne {H : Hp} {d p : Addr} {z : Str} {line col : Int} {fl : Bool} {a b : Int} (hd : H d = some (.lst [.int a, .int b])) (hp : PenH H p z line col fl) : d ≠ p := ne_of hd hp (by intro q; cases q)
theorem DrAt.ne {H : Hp} {d p : Addr} {z : Str} {line col : Int} {fl : Bool} (hd : DrAt H d) (hp : PenH H p z line col fl) : d ≠ p := by
  obtain ⟨a, b, e, _⟩ := hd
  exact dp_ne e hp
theorem DrAt.keep {H H' : Hp} {d : Addr} {ex : List Addr} (hd : DrAt H d) (g : SameX ex H H') (n : d ∉ ex) : DrAt H' d := by
  obtain ⟨a, b, e, h⟩ := hd
  exact ⟨a, b, g _ _ e n, h⟩
theorem PenH.keep {H H' : Hp} {p : Addr} {z : Str} {line col : Int} {fl : Bool} {ex : List Addr} (hp : PenH H p z line col fl) (g : SameX ex H H') (n : p ∉ ex) : PenH H' p z line col fl := g _ _ hp n
/-! ### what stands behind a line's last mark -/
def remS : List Str := ["", "", "", " # let ( 7x", "#", "  "]
theorem remS_idle : ∀ s ∈ remS, Idle (tl s) ∧ s.length ≤ 11 := by
  have i0 : Idle [] := ⟨by simp, fun l a => lexRow_nil .., by simp⟩
  have i1 : Idle [32, 35, 32, 108, 101, 116, 32, 40, 32, 55, 120] := ⟨by decide, fun l a => rfl, fun y h => by left; simpa using h.symm⟩
  have i2 : Idle [35] := ⟨by decide, fun l a => rfl, fun y h => by right; simpa using h.symm⟩
  have i3 : Idle [32, 32] := ⟨by decide, fun l a => rfl, fun y h => by left; simpa using h.symm⟩
  have e0 : tl ("" : Str) = [] := by decide +kernel
  have e1 : tl (" # let ( 7x" : Str) = [32, 35, 32, 108, 101, 116, 32, 40, 32, 55, 120] := by decide +kernel
  have e2 : tl ("#" : Str) = [35] := by decide +kernel
  have e3 : tl ("  " : Str) = [32, 32] := by decide +kernel
  intro s hs
  simp only [remS, List.mem_cons, List.not_mem_nil, or_false] at hs
  rcases hs with rfl | rfl | rfl | rfl | rfl | rfl
  · exact ⟨by rw [e0]; exact i0, by decide +kernel⟩
  · exact ⟨by rw [e0]; exact i0, by decide +kernel⟩
  · exact ⟨by rw [e0]; exact i0, by decide +kernel⟩
  · exact ⟨by rw [e1]; exact i1, by decide +kernel⟩
  · exact ⟨by rw [e2]; exact i2, by decide +kernel⟩
  · exact ⟨by rw [e3]; exact i3, by decide +kernel⟩
theorem tl_nl : tl ("\n" : Str) = [10] := by decide +kernel
theorem len_app (a b : Str) : (a ++ b).length = a.length + b.length := by
  rw [TL.len_tl, TL.len_tl a, TL.len_tl b, TL.tl_append, List.length_append]
theorem blank_eq : (" " : Str) = ⟨#[32]⟩ := by decide +kernel
theorem tl_blanks (n : Nat) : tl (Txt.mul (" " : Str) (n : Int)) = List.replicate n 32 := by rw [blank_eq]; exact mul_one_sign 32 n
theorem len_blanks (n : Nat) : (Txt.mul (" " : Str) (n : Int)).length = n := by
  rw [TL.len_tl]
  show (tl _).length = n
  rw [tl_blanks, List.length_replicate]

def spLine : Sp := fun vs H Q _ => ∃ (d p : Addr) (z : Str) (line col : Int) (fl : Bool) (st : List Int) (ah : Option Mrk) (r : List Nat) (c : Nat), vs = [.ref d, .ref p, .int (c : Nat)] ∧ DrAt H d ∧ PenH H p z line col fl ∧ PenB (tl z) line col st ah r ∧ c ≤ 9000 ∧ z.length ≤ 4000000 ∧
  ∀ (z' : Str) (line' : Int) (H' : Hp), z'.length ≤ z.length + 36 + c → Lined (tl z) line st ah (tl z') line' (c : Nat) → SameX [d, p] H H' → DrAt H' d → PenH H' p z' line' (c : Nat) fl → Q .non H'
section
variable {P : Program} {w : World} {K : PySem.W.Frag} {mg : Str → Option Value} {base : Heap}
abbrev Draw (P : Program) (w : World) (K : PySem.W.Frag) (mg : Str → Option Value) (base : Heap) (fD : Addr) (fdD : FuncData) : Prop := FnOk P w K mg base CX0 1 fD fdD ["draws", "many"] spDraw
theorem scLine : FnScope ["draws", "pen", "column", "remarks", "k"] ["draws", "pen", "column"] (defScope sLine) := ⟨rfl, rfl, rfl, by decide +kernel, rfl, by decide +kernel, by decide +kernel⟩
theorem ok_line {f fD : Addr} {fd fdD : FuncData} (F : Fun K "_law_line" "_law_line" sLine f fd) (DD : Df K mg "_law_draw" sDraw fD fdD ["draws", "many"]) (mr : mg "range" = none) : FnOk P w K mg base CX0 2 f fd ["draws", "pen", "column"] spLine := by
  have GD : Draw P w K mg base fD fdD := ok_draw DD.F
  refine F.ok scLine (fun vs H Q E h => ?_) (fun cdv A outer s H vs Q E hr h => ?_)
  · obtain ⟨d, p, z, line, col, fl, st, ah, r, c, rfl, _⟩ := h
    rfl
  obtain ⟨d, p, z, line, col, fl, st, ah, r, c, rfl, hd, hp, hB, hc, hz, q⟩ := h
  refine ⟨_, pss_cons (ps_set (i := 3) scLine.nd rfl (Or.inl rfl) (pe_lst (pa_cons pe_str (pa_cons pe_str (pa_cons pe_str (pa_cons pe_str (pa_cons pe_str (pa_cons pe_str pa_nil))))))))
    (pss_cons (ps_for PassesOwn.never rfl (pi_range1 rfl mr (pa_cons (pe_ix ix_list (pe_lst (pa_cons pe_int (pa_cons pe_int (pa_cons pe_int (pa_cons pe_int (pa_cons pe_int pa_nil)))))) (pe_call GD hr rfl DD.g DD.F.kp DD.b .nil pass0 (pa_cons (pv 0) (pa_cons pe_int pa_nil))) (fun _ _ => rfl)) pa_nil)) (pg_name (i := 4) scLine.nd rfl (Or.inl rfl))
      (pss_cons (ps_asg (pe_op op_add_str (pe_op op_add_str (pe_ix ix_list (pv 1) pe_int (fun _ _ => rfl)) (pe_ix ix_list (pv 3) (pe_call GD hr rfl DD.g DD.F.kp DD.b .nil pass0 (pa_cons (pv 0) (pa_cons pe_int pa_nil))) (fun _ _ => rfl))) pe_str) (pg_sub (pv 1) pe_int set_list))
      (pss_one (ps_asg (pe_op op_add (pe_ix ix_list (pv 1) pe_int (fun _ _ => rfl)) pe_int) (pg_sub (pv 1) pe_int set_list)))))
    (pss_cons (ps_asg (pe_op op_add_str (pe_ix ix_list (pv 1) pe_int (fun _ _ => rfl)) (pe_op op_mulStr pe_str (pv 2))) (pg_sub (pv 1) pe_int set_list))
    (pss_one (ps_asg (pv 2) (pg_sub (pv 1) pe_int set_list))))), ?_⟩
  refine ⟨by show 6 ≤ sizeLine; decide, fun pR hR => ?_⟩
  have g1 : SameX [d, p] H (upd H pR (.lst (remS.map V.str))) := SameX.new hR _
  have ndp : d ≠ p := hd.ne hp
  have nRd : pR ≠ d := by obtain ⟨a, b, e, _⟩ := hd; exact (ne_of_none e hR).symm
  have nRp : pR ≠ p := (ne_of_none hp hR).symm
  refine ⟨by show 5 ≤ sizeLine; decide, fun pI hI => ?_⟩
  have hR1 : upd (upd H pR (.lst (remS.map V.str))) pI (.lst ([1, 1, 1, 2, 3].map V.int)) pR = some (.lst (remS.map V.str)) := by
    rw [upd_ne (ne_of_none (upd_same (H := H) (a := pR)) hI)]
    exact upd_same
  have hd1 : DrAt (upd (upd H pR (.lst (remS.map V.str))) pI (.lst ([1, 1, 1, 2, 3].map V.int))) d := by
    obtain ⟨a, b, e, h2⟩ := hd
    exact ⟨a, b, (Same.new hI _) _ _ ((Same.new hR _) _ _ e), h2⟩
  have hp1 : PenH (upd (upd H pR (.lst (remS.map V.str))) pI (.lst ([1, 1, 1, 2, 3].map V.int))) p z line col fl := (Same.new hI _) _ _ ((Same.new hR _) _ _ hp)
  have nId : pI ≠ d := by obtain ⟨a, b, e, _⟩ := hd; exact (ne_of_none ((Same.new hR (.lst (remS.map V.str))) _ _ e) hI).symm
  refine ⟨_, rfl, d, 5, rfl, by decide, by decide, hd1, fun v H2 hv0 hv1 g2 hd2 => ?_⟩
  obtain ⟨n, hn, en⟩ := at_some (f := V.int) (xs := [1, 1, 1, 2, 3]) hv0 hv1
  have hn13 : 1 ≤ n ∧ n ≤ 3 := by
    simp only [List.mem_cons, List.not_mem_nil, or_false] at hn
    omega
  have hI2 : H2 pI = some (.lst ([1, 1, 1, 2, 3].map V.int)) := g2 _ _ upd_same (by simpa using nId)
  have hR2 : H2 pR = some (.lst (remS.map V.str)) := g2 _ _ hR1 (by simpa using nRd)
  have hp2 : PenH H2 p z line col fl := g2 _ _ hp1 (by simpa using Ne.symm ndp)
  refine ⟨pI, _, _, _, rfl, rfl, SqL.of hI2, en, ?_⟩
  have g02 : SameX [d, p] H H2 := (g1.trans (SameX.new hI _)).trans (g2.mono (by simp))
  refine ⟨n, rfl, by omega, by omega, ?_⟩
  refine for_range (lo := 0) (n := n.toNat) (fun i σ H' => ∃ (z1 : Str) (line1 : Int) (v4 : Option V), σ = [some (.ref d), some (.ref p), some (.int (c : Nat)), some (.ref pR), v4] ∧ SameX [d, p] H H' ∧ DrAt H' d ∧ PenH H' p z1 line1 col fl ∧ H' pR = some (.lst (remS.map V.str)) ∧ z1.length ≤ z.length + 12 * i ∧
      ((i = 0 ∧ z1 = z ∧ line1 = line) ∨ (PenB (tl z1) line1 0 st ah [] ∧ line < line1)))
    ⟨z, line, none, rfl, g02, hd2, hp2, hR2, by omega, .inl ⟨rfl, rfl, rfl⟩⟩ ?_ ?_
  · rintro i σ H3 hi ⟨z1, line1, v4, rfl, g3, hd3, hp3, hR3, hz3, hs3⟩
    have hp3' : H3 p = some (.lst [.str z1, .int line1, .int col, .bl fl]) := hp3
    refine ⟨_, rfl, p, _, _, _, rfl, rfl, SqL.of hp3', rfl, _, rfl, _, rfl, d, 6, rfl, by decide, by decide, hd3, fun v H4 hv0 hv1 g4 hd4 => ?_⟩
    obtain ⟨rem, hrem, erem⟩ := at_some (f := V.str) (xs := remS) hv0 hv1
    obtain ⟨idle, hrl⟩ := remS_idle rem hrem
    have hp4 : H4 p = some (.lst [.str z1, .int line1, .int col, .bl fl]) := g4 _ _ hp3' (by simpa using Ne.symm ndp)
    have hR4 : H4 pR = some (.lst (remS.map V.str)) := g4 _ _ hR3 (by simpa using nRd)
    have l1 : (z1 ++ rem).length = z1.length + rem.length := len_app _ _
    have l2 : ("\n" : Str).length = 1 := by decide +kernel
    refine ⟨pR, _, _, _, rfl, rfl, SqL.of hR4, erem, _, _, rfl, rfl, by rw [sizeLine_eq]; omega, _, _, rfl, rfl, by rw [sizeLine_eq, l1]; omega, ?_⟩
    refine ⟨_, rfl, p, _, _, 0, rfl, rfl, hp4, rfl, ?_⟩
    have e5 : upd H4 p (.lst [.str (z1 ++ rem ++ "\n"), .int line1, .int col, .bl fl]) p = some (.lst [.str (z1 ++ rem ++ "\n"), .int line1, .int col, .bl fl]) := upd_same
    refine ⟨_, rfl, p, _, _, _, rfl, rfl, SqL.of e5, rfl, _, _, rfl, rfl, ?_⟩
    refine ⟨_, rfl, p, _, _, 1, rfl, rfl, e5, rfl, ?_⟩
    refine ⟨z1 ++ rem ++ "\n", line1 + 1, _, rfl, ?_, ?_, upd_same, ?_, ?_, .inr ?_⟩
    · exact ((g3.trans (g4.mono (by simp))).trans (SameX.put (by simp) _)).trans (SameX.put (by simp) _)
    · obtain ⟨a, b, e, h2⟩ := hd4
      exact ⟨a, b, by rw [upd_ne ndp, upd_ne ndp]; exact e, h2⟩
    · rw [upd_ne nRp, upd_ne nRp]
      exact hR4
    · rw [len_app, l1, l2]
      omega
    · have et : tl (z1 ++ rem ++ ("\n" : Str)) = tl z1 ++ tl rem ++ [10] := by
        show TL.tl _ = _
        rw [TL.tl_append, TL.tl_append]
        show tl z1 ++ tl rem ++ tl ("\n" : Str) = _
        rw [tl_nl]
      rw [et]
      rcases hs3 with ⟨_, rfl, rfl⟩ | ⟨hB1, hlt⟩
      · exact ⟨hB.line idle, by omega⟩
      · exact ⟨hB1.line idle, by omega⟩
  · rintro σ H3 ⟨z1, line1, v4, rfl, g3, hd3, hp3, hR3, hz3, hs3⟩
    obtain ⟨hB1, hlt⟩ : PenB (tl z1) line1 0 st ah [] ∧ line < line1 := by
      rcases hs3 with ⟨e, _⟩ | h
      · omega
      · exact h
    have hp3' : H3 p = some (.lst [.str z1, .int line1, .int col, .bl fl]) := hp3
    have lb := len_blanks c
    refine ⟨_, rfl, p, _, _, _, rfl, rfl, SqL.of hp3', rfl, _, rfl, _, _, rfl, rfl, by decide +kernel, by omega, by omega, _, _, rfl, rfl, by rw [lb, sizeLine_eq]; omega, ?_⟩
    refine ⟨_, rfl, p, _, _, 0, rfl, rfl, hp3', rfl, ?_⟩
    have e5 : upd H3 p (.lst [.str (z1 ++ Txt.mul (" " : Str) (c : Nat)), .int line1, .int col, .bl fl]) p = some (.lst [.str (z1 ++ Txt.mul (" " : Str) (c : Nat)), .int line1, .int col, .bl fl]) := upd_same
    refine ⟨_, rfl, _, rfl, p, _, _, 2, rfl, rfl, e5, rfl, ?_⟩
    refine q (z1 ++ Txt.mul (" " : Str) (c : Nat)) line1 _ ?_ ⟨⟨List.replicate c 32, ?_, fun x hx => ?_⟩, hlt⟩ ?_ ?_ upd_same
    · rw [len_app, lb]
      omega
    · have et : tl (z1 ++ Txt.mul (" " : Str) (c : Nat)) = tl z1 ++ List.replicate c 32 := by
        show TL.tl _ = _
        rw [TL.tl_append]
        show tl z1 ++ tl (Txt.mul (" " : Str) (c : Nat)) = _
        rw [tl_blanks]
      rw [et]
      have := hB1.blanks c
      rw [Int.zero_add, List.nil_append] at this
      exact this
    · exact (List.mem_replicate.mp (List.mem_of_getLast? hx)).2
    · exact (g3.trans (SameX.put (by simp) _)).trans (SameX.put (by simp) _)
    · obtain ⟨a, b, e, h2⟩ := hd3
      exact ⟨a, b, by rw [upd_ne ndp, upd_ne ndp]; exact e, h2⟩
end
end TP
set_option maxRecDepth 100000
set_option maxHeartbeats 4000000
namespace TP
open PySem L2
/-! ### words -/
theorem tok_head {w : List Nat} {q : Str × List Nat} (h : tok w = some q) {y : Nat} (hy : w.head? = some y) : y ≠ 62 ∧ y ≠ 93 := by
  cases w with
  | nil => cases hy
  | cons c cs =>
    have e : c = y := by simpa using hy
    subst e
    unfold tok at h
    split at h
    · rename_i h1
      have : c ∈ LT := by
        unfold runs at h1
        rw [List.takeWhile_cons] at h1
        split at h1
        · rename_i h2
          exact of_decide_eq_true h2
        · exact absurd rfl h1
      have := mem_LT.mp this
      omega
    · split at h
      · rename_i h1
        have : c ∈ FG := by
          unfold runs at h1
          rw [List.takeWhile_cons] at h1
          split at h1
          · rename_i h2
            exact of_decide_eq_true h2
          · exact absurd rfl h1
        have := mem_FG.mp this
        omega
      · obtain ⟨s, hs, rfl⟩ := Option.map_eq_some_iff.mp h
        have hm := List.mem_of_find?_eq_some hs
        have hp : List.take s.length (c :: cs) = s := by simpa using List.find?_some hs
        simp only [signsL, List.mem_cons, List.not_mem_nil, or_false] at hm
        rcases hm with rfl | rfl | rfl | rfl | rfl | rfl | rfl | rfl | rfl | rfl | rfl <;> (simp at hp; omega)
/-- ready to write: at the place of the next mark, or behind a mark -/
def Rdy (t : List Nat) (line col : Int) (fl : Bool) (S : List Int) (x : Nat) : Prop := (fl = true → PenF t line col S) ∧ (fl = false → PenU t line col S false x)
structure Top (S : List Int) (least : Int) (fr : Bool) : Prop where
  ne : S ≠ []
  le : ∀ e ∈ S, e ≤ least
  fr : fr = true → S.head? = some (-1)
structure Sz (n : Nat) (z : Str) (col : Int) : Prop where
  nle : n ≤ 400
  c0 : 0 ≤ col
  c1 : col ≤ 20 * ((n : Nat) : Int)
  zl : z.length ≤ 8200 * n
structure WordS (k : Str) (w : Str) : Prop where
  wd : Word k (tl w)
  len : w.length ≤ 8
/-- the pen, once the word stands there -/
def spWord : Sp := fun vs H Q _ => ∃ (d p : Addr) (z w : Str) (line col least : Int) (fl fr : Bool) (k : Str) (S S' : List Int) (x n : Nat), vs = [.ref d, .ref p, .str w, .int least, .bl fr] ∧ DrAt H d ∧ PenH H p z line col fl ∧ WordS k w ∧ Rdy (tl z) line col fl S x ∧
  (∀ y, (tl w).head? = some y → y = 61 → x ≠ 61) ∧ Top S least fr ∧ brkS k w S = some S' ∧ Sz n z col ∧ 0 ≤ least ∧ least ≤ 20 * ((n : Nat) : Int) ∧ n + 1 ≤ 400 ∧
  ∀ (z' : Str) (line' col' : Int) (H' : Hp) (q : Addr) (y : Nat), (tl w).getLast? = some y → PenU (tl z') line' col' S' (isOp k (tl w)) y → Sz (n + 1) z' col' → SameX [d, p] H H' → DrAt H' d → PenH H' p z' line' col' false → Q (.ref q) H'
theorem cut_last (z : Str) : tl (cutS z (some (-1)) none) = match (tl z).getLast? with | none => [] | some x => [x] := by
  show ((tl z).drop (HT.sIx z.length 0 (some (-1)))).take (z.length - HT.sIx z.length 0 (some (-1))) = _
  have hz : z.length = (tl z).length := TL.len_tl z
  have e : HT.sIx z.length 0 (some (-1)) = (tl z).length - 1 := by
    show (if (-1 : Int) < 0 then ((-1 : Int) + (z.length : Int)).toNat else min (-1 : Int).toNat z.length) = _
    rw [if_pos (by decide), hz]
    omega
  rw [e, hz]
  cases h : (tl z).getLast? with
  | none =>
    have : tl z = [] := List.getLast?_eq_none_iff.mp h
    rw [this]
    rfl
  | some x =>
    obtain ⟨l, hl⟩ := List.getLast?_eq_some_iff.mp h
    rw [hl]
    simp
theorem inLT (c : Nat) : decide (c ∈ (letS).cps.toList) = decide (c ∈ LT) := by rw [show (letS).cps.toList = LT from letS_tl]
theorem inFG (c : Nat) : decide (c ∈ (figS).cps.toList) = decide (c ∈ FG) := by rw [show (figS).cps.toList = FG from figS_tl]
/-- the last sign, and the next word's first: they run into one another -/
def nearB (z w : Str) : Bool := match (tl z).getLast?, (tl w).head? with
  | some x, some y => (decide (x ∈ LT) && decide (y ∈ LT)) || (decide (x ∈ FG) && decide (y ∈ FG))
  | _, _ => false

section
variable {P : Program} {w : World} {K : PySem.W.Frag} {mg : Str → Option Value} {base : Heap}
theorem scWord : FnScope ["draws", "pen", "word", "least", "free", "letters", "figures", "last", "near", "way", "many", "place"] ["draws", "pen", "word", "least", "free"] (defScope sWord) := ⟨rfl, rfl, rfl, by decide +kernel, rfl, by decide +kernel, by decide +kernel⟩
theorem ok_word {f fD fL : Addr} {fd fdD fdL : FuncData} (F : Fun K "_law_word" "_law_word" sWord f fd) (DD : Df K mg "_law_draw" sDraw fD fdD ["draws", "many"]) (DL : Df K mg "_law_line" sLine fL fdL ["draws", "pen", "column"]) (mr : mg "range" = none) (ml : mg "len" = none) (mi : mg "int" = none) :
    FnOk P w K mg base CX0 3 f fd ["draws", "pen", "word", "least", "free"] spWord := by
  have GD : Draw P w K mg base fD fdD := ok_draw DD.F
  have GL : FnOk P w K mg base CX0 2 fL fdL ["draws", "pen", "column"] spLine := ok_line DL.F DD mr
  refine F.ok scWord (fun vs H Q E h => ?_) (fun cdv A outer s H vs Q E hr h => ?_)
  · obtain ⟨d, p, z, w, line, col, least, fl, fr, k, S, S', x, n, rfl, _⟩ := h
    rfl
  obtain ⟨d, p, z, wd, line, col, least, fl, fr, k, S, S', x, n, rfl, hd, hp, hw, hrdy, h61, htop, hbrk, hsz, hl0, hl1, hn, q⟩ := h
  have hr1 : Room 1 _ := hr.mono (by decide)
  refine ⟨_, pss_cons (ps_set (i := 5) scWord.nd rfl (Or.inl rfl) pe_str) (pss_cons (ps_set (i := 6) scWord.nd rfl (Or.inl rfl) pe_str)
    (pss_cons (ps_set (i := 7) scWord.nd rfl (Or.inl rfl) (pe_slice sl_str (pe_ix ix_list (pv 1) pe_int (fun _ _ => rfl)) (po_some (pe_un un_neg pe_int)) po_none))
    (C8.pss_cut (ps_set (i := 8) scWord.nd rfl (Or.inl rfl) (pe_and (pe_cmpR op_ne (pv 7) pe_str (nomark _)) (pe_and (pe_cmpR op_in_sign (pv 7) (pv 5) (by rfl)) (pe_one (pe_cmpR op_in_sign (pe_ix ix_str (pv 2) pe_int (fun _ _ => rfl)) (pv 5) (by rfl))))))
    (C8.pss_cut (ps_if (PW.pt (pw_and (pt_cmpR op_ne (pv 7) pe_str (nomark _)) (pw_and (pt_cmpR op_in_sign (pv 7) (pv 6) (by rfl)) (pw_and1 (pt_cmpR op_in_sign (pe_ix ix_str (pv 2) pe_int (fun _ _ => rfl)) (pv 6) (by rfl)))))) (pss_one (ps_set (i := 8) scWord.nd rfl (Or.inl rfl) pe_bl)) pss_nil)
    (pss_cons (ps_set (i := 9) scWord.nd rfl (Or.inl rfl) (pe_call GD hr1 rfl DD.g DD.F.kp DD.b .nil pass0 (pa_cons (pv 0) (pa_cons pe_int pa_nil))))
    (C8.pss_cut (ps_if (pt_val (pe_ix ix_list (pv 1) pe_int (fun _ _ => rfl))) (pss_one (ps_asg pe_bl (pg_sub (pv 1) pe_int set_list)))
      (pss_one (ps_if (pt_cmpR op_eq (pv 9) pe_int (nomark _))
        (pss_one (ps_expr (pe_call GL hr rfl DL.g DL.F.kp DL.b .nil pass0 (pa_cons (pv 0) (pa_cons (pv 1) (pa_cons (pe_op op_add (pe_ix ix_list (pe_lst (pa_cons (pe_op op_add (pv 3) pe_int) (pa_cons pe_int pa_nil))) (pe_callTy call_int1 (by rfl) mi (by decide +kernel) (pa_cons (pv 4) pa_nil)) (fun _ _ => rfl)) (pe_call GD hr1 rfl DD.g DD.F.kp DD.b .nil pass0 (pa_cons (pv 0) (pa_cons pe_int pa_nil)))) pa_nil))))))
        (pss_one (ps_if (PW.pt (pw_or (pt_cmpR op_lt (pv 9) pe_int (nomark _)) (pw_or1 (pt_val (pv 8)))))
          (pss_cons (ps_set (i := 10) scWord.nd rfl (Or.inl rfl) (pe_ix ix_list (pe_lst (pa_cons pe_int (pa_cons pe_int (pa_cons pe_int (pa_cons pe_int pa_nil))))) (pe_call GD hr1 rfl DD.g DD.F.kp DD.b .nil pass0 (pa_cons (pv 0) (pa_cons pe_int pa_nil))) (fun _ _ => rfl)))
          (pss_cons (ps_asg (pe_op op_add_str (pe_ix ix_list (pv 1) pe_int (fun _ _ => rfl)) (pe_op op_mulStr pe_str (pv 10))) (pg_sub (pv 1) pe_int set_list))
          (pss_one (ps_asg (pe_op op_add (pe_ix ix_list (pv 1) pe_int (fun _ _ => rfl)) (pv 10)) (pg_sub (pv 1) pe_int set_list))))) pss_nil)))))
    (pss_cons (ps_set (i := 11) scWord.nd rfl (Or.inl rfl) (pe_tup (pa_cons (pe_ix ix_list (pv 1) pe_int (fun _ _ => rfl)) (pa_cons (pe_ix ix_list (pv 1) pe_int (fun _ _ => rfl)) pa_nil))))
    (pss_cons (ps_asg (pe_op op_add_str (pe_ix ix_list (pv 1) pe_int (fun _ _ => rfl)) (pv 2)) (pg_sub (pv 1) pe_int set_list))
    (pss_cons (ps_asg (pe_op op_add (pe_ix ix_list (pv 1) pe_int (fun _ _ => rfl)) (pe_callB call_len_str (by rfl) ml PySem.boot_len (pa_cons (pv 2) pa_nil))) (pg_sub (pv 1) pe_int set_list))
    (pss_one (ps_ret (pv 11)))))))))))), ?_⟩
  have hp' : H p = some (.lst [.str z, .int line, .int col, .bl fl]) := hp
  have hsn := hsz.nle
  have hsc0 := hsz.c0
  have hsc1 := hsz.c1
  have hszz := hsz.zl
  have hwl := hw.len
  have ndp : d ≠ p := hd.ne hp
  have lwd : wd.length = (tl wd).length := TL.len_tl wd
  obtain ⟨y0, hy0⟩ : ∃ y, (tl wd).head? = some y := by
    cases e : tl wd with
    | nil => exact absurd e hw.wd.ne
    | cons a b => exact ⟨a, rfl⟩
  have hat : (tl wd)[0]? = some y0 := by rw [← List.head?_eq_getElem?]; exact hy0
  have hwl2 : wd.length ≤ sizeLine := by rw [sizeLine_eq]; omega
  have zl : z.length ≤ sizeLine := by rw [sizeLine_eq]; omega
  refine ⟨_, rfl, p, _, _, _, rfl, rfl, SqL.of hp', rfl, _, rfl, _, rfl, _, rfl, zl, ?_⟩
  generalize hla : cutS z (some (-1)) none = la
  have htl : tl la = match (tl z).getLast? with | none => [] | some x => [x] := by rw [← hla]; exact cut_last z
  -- near = ..
  refine ⟨fun (σ : L2.St) (H1 : Hp) => H1 = H ∧ ∃ nb : Bool, σ = [some (.ref d), some (.ref p), some (.str wd), some (.int least), some (.bl fr), some (.str letS), some (.str figS), some (.str la), some (.bl nb), none, none, none] ∧ (nb = false → ∀ x, (tl z).getLast? = some x → ¬ (x ∈ LT ∧ y0 ∈ LT)), ?_, ?_⟩
  · cases e : (tl z).getLast? with
    | none =>
      rw [e] at htl
      have el : la = ("" : Str) := TL.ext_tl (htl.trans (show [] = tl ("" : Str) by decide +kernel))
      refine ⟨_, rfl, rfl, _, rfl, ?_⟩
      rw [el]
      exact ⟨rfl, false, rfl, fun _ x hx => by cases hx⟩
    | some x0 =>
      rw [e] at htl
      have el : la = ⟨#[x0]⟩ := TL.ext_tl htl
      refine ⟨_, rfl, rfl, _, rfl, ?_⟩
      have ne : (!decide (V.str la = V.str ("" : Str))) = true := by
        rw [str_dec, decide_eq_false (fun q => by rw [q] at htl; revert htl; show ¬ (tl ("" : Str) = [x0]); rw [show tl ("" : Str) = [] by decide +kernel]; simp)]
        rfl
      rw [ne]
      refine iteT ?_
      refine ⟨_, rfl, _, rfl, x0, letS, by rw [el], rfl, _, rfl, ?_⟩
      rw [inLT]
      by_cases h1 : x0 ∈ LT
      · rw [decide_eq_true h1]
        refine iteT ?_
        refine ⟨_, rfl, _, _, y0, rfl, rfl, hwl2, atI_nat hat, _, rfl, y0, letS, rfl, rfl, ?_⟩
        rw [inLT]
        exact ⟨rfl, _, rfl, fun hn x hx => by cases hx; intro z2; exact absurd z2.2 (of_decide_eq_false hn)⟩
      · rw [decide_eq_false h1]
        refine iteF ?_
        exact ⟨rfl, false, rfl, fun _ x hx => by cases hx; intro z2; exact h1 z2.1⟩
  rintro σ H1 ⟨rfl, nb1, rfl, hnb1⟩
  -- if last != "" and last in figures ..: near = True
  refine ⟨fun (σ : L2.St) (H2 : Hp) => H2 = H1 ∧ ∃ nb : Bool, σ = [some (.ref d), some (.ref p), some (.str wd), some (.int least), some (.bl fr), some (.str letS), some (.str figS), some (.str la), some (.bl nb), none, none, none] ∧ (nb = false → ∀ x, (tl z).getLast? = some x → ¬ (x ∈ LT ∧ y0 ∈ LT) ∧ ¬ (x ∈ FG ∧ y0 ∈ FG)), ?_, ?_⟩
  · cases e : (tl z).getLast? with
    | none =>
      rw [e] at htl
      have el : la = ("" : Str) := TL.ext_tl (htl.trans (show [] = tl ("" : Str) by decide +kernel))
      refine ⟨_, rfl, rfl, _, rfl, ?_⟩
      rw [el]
      exact ⟨rfl, nb1, rfl, fun _ x hx => by cases hx⟩
    | some x0 =>
      rw [e] at htl hnb1
      have el : la = ⟨#[x0]⟩ := TL.ext_tl htl
      refine ⟨_, rfl, rfl, _, rfl, ?_⟩
      have ne : (!decide (V.str la = V.str ("" : Str))) = true := by
        rw [str_dec, decide_eq_false (fun q => by rw [q] at htl; revert htl; show ¬ (tl ("" : Str) = [x0]); rw [show tl ("" : Str) = [] by decide +kernel]; simp)]
        rfl
      rw [ne]
      refine iteT ?_
      refine ⟨_, rfl, _, rfl, x0, figS, by rw [el], rfl, _, rfl, ?_⟩
      rw [inFG]
      by_cases h1 : x0 ∈ FG
      · rw [decide_eq_true h1]
        refine iteT ?_
        refine ⟨_, rfl, _, _, y0, rfl, rfl, hwl2, atI_nat hat, _, rfl, y0, figS, rfl, rfl, _, rfl, ?_⟩
        rw [inFG]
        by_cases h2 : y0 ∈ FG
        · rw [decide_eq_true h2]
          refine iteT ?_
          exact ⟨rfl, true, rfl, fun hn => Bool.noConfusion hn⟩
        · rw [decide_eq_false h2]
          refine iteF ?_
          exact ⟨rfl, nb1, rfl, fun hn x hx => by cases hx; exact ⟨hnb1 hn x0 rfl, fun z2 => h2 z2.2⟩⟩
      · rw [decide_eq_false h1]
        refine iteF ?_
        refine iteF ?_
        exact ⟨rfl, nb1, rfl, fun hn x hx => by cases hx; exact ⟨hnb1 hn x0 rfl, fun z2 => h1 z2.1⟩⟩
  rintro σ H2 ⟨rfl, nb, rfl, hnb⟩
  clear hnb1
  refine ⟨_, rfl, d, 10, rfl, by decide, by decide, hd, fun way H3 hw0 hw1 g3 hd3 => ?_⟩
  have hp3 : H3 p = some (.lst [.str z, .int line, .int col, .bl fl]) := g3 _ _ hp' (by simpa using Ne.symm ndp)
  have g03 : SameX [d, p] H2 H3 := g3.mono (by simp)
  -- the pen is where the word shall stand
  refine ⟨fun (σ : L2.St) (H4 : Hp) => ∃ (z1 : Str) (line1 col1 : Int) (v10 : Option V), σ = [some (.ref d), some (.ref p), some (.str wd), some (.int least), some (.bl fr), some (.str letS), some (.str figS), some (.str la), some (.bl nb), some (.int way), v10, none] ∧ SameX [d, p] H2 H4 ∧ DrAt H4 d ∧ PenH H4 p z1 line1 col1 false ∧
      (∀ y, (tl wd).getLast? = some y → PenU (tl z1 ++ tl wd) line1 (col1 + ((wd.length : Nat) : Int)) S' (isOp k (tl wd)) y) ∧ 0 ≤ col1 ∧ col1 ≤ 20 * ((n : Nat) : Int) + 8 ∧ z1.length ≤ 8200 * n + 8150, ?_, ?_⟩
  · refine ⟨_, rfl, p, _, _, _, rfl, rfl, SqL.of hp3, rfl, fl, rfl, ?_⟩
    cases fl with
    | true =>
      refine iteT ?_
      refine ⟨_, rfl, p, _, _, 3, rfl, rfl, hp3, rfl, ?_⟩
      refine ⟨z, line, col, none, rfl, g03.trans (SameX.put (by simp) _), ?_, upd_same, fun y hy => ?_, hsc0, by omega, by omega⟩
      · obtain ⟨a, b, e, h2⟩ := hd3
        exact ⟨a, b, by rw [upd_ne ndp]; exact e, h2⟩
      · have q2 := (hrdy.1 rfl).word hw.wd hbrk
        have ey : (tl wd).getLast hw.wd.ne = y := by rw [List.getLast?_eq_some_getLast hw.wd.ne] at hy; exact Option.some.inj hy
        rw [ey, ← lwd] at q2
        exact q2
    | false =>
      have hU := hrdy.2 rfl
      refine iteF ?_
      refine ⟨_, rfl, rfl, _, rfl, ?_⟩
      refine ite2 (fun c => ?_) (fun c => ?_)
      · -- behind a line's end
        have hp3P : PenH H3 p z line col false := hp3
        refine ⟨_, rfl, _, rfl, _, rfl, _, _, rfl, rfl, by show 2 ≤ sizeLine; decide, fun pI hI => ?_⟩
        have hI2 : upd H3 pI (.lst [.int (least + 1), .int 0]) pI = some (.lst [.int (least + 1), .int 0]) := upd_same
        refine ⟨_, rfl, .inr ⟨fr, rfl, ?_⟩⟩
        refine ⟨pI, _, _, .int (if fr = true then 0 else least + 1), rfl, rfl, SqL.of hI2, by cases fr <;> rfl, ?_⟩
        have hd4 : DrAt (upd H3 pI (.lst [.int (least + 1), .int 0])) d := by
          obtain ⟨a, b, e, h2⟩ := hd3
          exact ⟨a, b, (Same.new hI _) _ _ e, h2⟩
        refine ⟨_, rfl, d, 6, rfl, by decide, by decide, hd4, fun v H5 hv0 hv1 g5 hd5 => ?_⟩
        refine ⟨_, _, rfl, rfl, ?_⟩
        obtain ⟨c0, hc0⟩ : ∃ c0 : Nat, (if fr = true then (0 : Int) else least + 1) + v = ((c0 : Nat) : Int) := ⟨((if fr = true then (0 : Int) else least + 1) + v).toNat, by split <;> omega⟩
        have hc0b : ((c0 : Nat) : Int) ≤ least + 6 := by rw [← hc0]; split <;> omega
        have hp5 : PenH H5 p z line col false := g5 _ _ ((Same.new hI _) _ _ hp3) (by simpa using Ne.symm ndp)
        obtain ⟨a, r, hB, hal, hao, hrl, htl2⟩ := id hU
        refine ⟨d, p, z, line, col, false, S, some a, r, c0, by rw [← hc0]; rfl, hd5, hp5, hB, by omega, by omega, fun z1 line1 H6 hz1 hL g6 hd6 hp6 => ?_⟩
        refine ⟨z1, line1, ((c0 : Nat) : Int), none, rfl, ((g03.trans (SameX.new hI _)).trans (g5.mono (by simp))).trans g6, hd6, hp6, fun y hy => ?_, by omega, by omega, by omega⟩
        obtain ⟨hd0, tS, eS⟩ : ∃ a b, S = a :: b := by
          cases e : S with
          | nil => exact absurd e htop.ne
          | cons a b => exact ⟨a, b, rfl⟩
        have hle : hd0 ≤ ((c0 : Nat) : Int) := by
          cases fr with
          | true =>
            have := htop.fr rfl
            rw [eS] at this
            have e1 : hd0 = -1 := by simpa using this
            omega
          | false =>
            have e1 := htop.le hd0 (by rw [eS]; exact List.mem_cons_self ..)
            have e2 : least + 1 + v = ((c0 : Nat) : Int) := hc0
            omega
        rw [eS] at hL
        have hF := Lined.item (ex := []) hL (by omega) hao (by simp) hle
        rw [← eS] at hF
        have q2 := hF.word hw.wd hbrk
        have ey : (tl wd).getLast hw.wd.ne = y := by rw [List.getLast?_eq_some_getLast hw.wd.ne] at hy; exact Option.some.inj hy
        rw [ey, ← lwd] at q2
        exact q2
      · -- on the line, behind blanks or none
        have blanks : ∀ (m : Nat), (m = 0 → ∀ y, (tl wd).head? = some y → okB x y) → ∀ y, (tl wd).getLast? = some y → PenU (tl z ++ List.replicate m 32 ++ tl wd) line (col + ((m : Nat) : Int) + ((wd.length : Nat) : Int)) S' (isOp k (tl wd)) y := fun m hm y hy => by
          have q2 := hU.word hw.wd m hm hbrk
          have ey : (tl wd).getLast hw.wd.ne = y := by rw [List.getLast?_eq_some_getLast hw.wd.ne] at hy; exact Option.some.inj hy
          rw [ey, ← lwd] at q2
          exact q2
        -- the branch with blanks
        have B : ∀ H4, H4 = H3 → (tSeq (tAsg (tOp (rIxL K) (tLst (tCons (tC (.int 1)) (tCons (tC (.int 1)) (tCons (tC (.int 2)) (tCons (tC (.int 5)) tNil))))) (tCall spDraw [] E0 (tCons (tVar 0) (tCons (tC (.int 4)) tNil)))) (gName 10))
            (tSeq (tAsg (tOp (fun x y H Q => ∃ i j, x = .str i ∧ y = .str j ∧ i.length + j.length ≤ sizeLine ∧ Q (.str (i ++ j)) H) (tOp (rIxL K) (tVar 1) (tC (.int 0))) (tOp (fun x y H Q => ∃ (z : Str) (i : Int), x = .str z ∧ y = .int i ∧ z.length ≤ 16 ∧ 0 ≤ i ∧ i ≤ 1048576 ∧ Q (.str (Txt.mul z i)) H) (tC (.str " ")) (tVar 10))) (gSub (tVar 1) (tC (.int 0)) rSetL))
              (tAsg (tOp (rI0 fun i j => .int (i + j)) (tOp (rIxL K) (tVar 1) (tC (.int 2))) (tVar 10)) (gSub (tVar 1) (tC (.int 2)) rSetL))))
            { nx := fun (σ : L2.St) (H4 : Hp) => ∃ (z1 : Str) (line1 col1 : Int) (v10 : Option V), σ = [some (.ref d), some (.ref p), some (.str wd), some (.int least), some (.bl fr), some (.str letS), some (.str figS), some (.str la), some (.bl nb), some (.int way), v10, none] ∧ SameX [d, p] H2 H4 ∧ DrAt H4 d ∧ PenH H4 p z1 line1 col1 false ∧
              (∀ y, (tl wd).getLast? = some y → PenU (tl z1 ++ tl wd) line1 (col1 + ((wd.length : Nat) : Int)) S' (isOp k (tl wd)) y) ∧ 0 ≤ col1 ∧ col1 ≤ 20 * ((n : Nat) : Int) + 8 ∧ z1.length ≤ 8200 * n + 8150, rt := Q }
            [some (.ref d), some (.ref p), some (.str wd), some (.int least), some (.bl fr), some (.str letS), some (.str figS), some (.str la), some (.bl nb), some (.int way), none, none] H4 := by
          rintro H4 rfl
          refine ⟨by show 4 ≤ sizeLine; decide, fun pI hI => ?_⟩
          have hI2 : upd H4 pI (.lst ([1, 1, 2, 5].map V.int)) pI = some (.lst ([1, 1, 2, 5].map V.int)) := upd_same
          have hd4 : DrAt (upd H4 pI (.lst ([1, 1, 2, 5].map V.int))) d := by
            obtain ⟨a, b, e, h2⟩ := hd3
            exact ⟨a, b, (Same.new hI _) _ _ e, h2⟩
          have nId : pI ≠ d := by obtain ⟨a, b, e, _⟩ := hd3; exact (ne_of_none e hI).symm
          refine ⟨_, rfl, d, 4, rfl, by decide, by decide, hd4, fun v H5 hv0 hv1 g5 hd5 => ?_⟩
          obtain ⟨m0, hm0, em0⟩ := at_some (f := V.int) (xs := [1, 1, 2, 5]) hv0 hv1
          have hm1 : 1 ≤ m0 ∧ m0 ≤ 5 := by
            simp only [List.mem_cons, List.not_mem_nil, or_false] at hm0
            omega
          obtain ⟨m, rfl⟩ : ∃ m : Nat, m0 = (m : Int) := ⟨m0.toNat, by omega⟩
          have hI5 : H5 pI = some (.lst ([1, 1, 2, 5].map V.int)) := g5 _ _ upd_same (by simpa using nId)
          have hp5 : H5 p = some (.lst [.str z, .int line, .int col, .bl false]) := g5 _ _ ((Same.new hI _) _ _ hp3) (by simpa using Ne.symm ndp)
          have lb := len_blanks m
          refine ⟨pI, _, _, _, rfl, rfl, SqL.of hI5, em0, ?_⟩
          refine ⟨_, rfl, p, _, _, _, rfl, rfl, SqL.of hp5, rfl, _, rfl, _, _, rfl, rfl, by decide +kernel, by omega, by omega, _, _, rfl, rfl, by rw [lb, sizeLine_eq]; omega, ?_⟩
          refine ⟨_, rfl, p, _, _, 0, rfl, rfl, hp5, rfl, ?_⟩
          have e6 : upd H5 p (.lst [.str (z ++ Txt.mul (" " : Str) (m : Nat)), .int line, .int col, .bl false]) p = some (.lst [.str (z ++ Txt.mul (" " : Str) (m : Nat)), .int line, .int col, .bl false]) := upd_same
          refine ⟨_, rfl, p, _, _, _, rfl, rfl, SqL.of e6, rfl, _, rfl, _, _, rfl, rfl, ?_⟩
          refine ⟨_, rfl, p, _, _, 2, rfl, rfl, e6, rfl, ?_⟩
          refine ⟨z ++ Txt.mul (" " : Str) (m : Nat), line, col + ((m : Nat) : Int), _, rfl, ?_, ?_, upd_same, ?_, by omega, by omega, ?_⟩
          · exact (((g03.trans (SameX.new hI _)).trans (g5.mono (by simp))).trans (SameX.put (by simp) _)).trans (SameX.put (by simp) _)
          · obtain ⟨a, b, e, h2⟩ := hd5
            exact ⟨a, b, by rw [upd_ne ndp, upd_ne ndp]; exact e, h2⟩
          · have et : tl (z ++ Txt.mul (" " : Str) (m : Nat)) = tl z ++ List.replicate m 32 := by
              show TL.tl _ = _
              rw [TL.tl_append]
              show tl z ++ tl (Txt.mul (" " : Str) (m : Nat)) = _
              rw [tl_blanks]
            rw [et]
            exact blanks m (fun e => by omega)
          · rw [len_app, lb]
            omega
        refine ⟨_, rfl, _, _, rfl, rfl, _, rfl, ?_⟩
        refine ite2 (fun c7 => ?_) (fun c7 => ?_)
        · refine iteT ?_
          exact B _ rfl
        · refine ⟨_, rfl, nb, rfl, ?_⟩
          cases nb with
          | true =>
            refine iteT ?_
            exact B _ rfl
          | false =>
            refine iteF ?_
            have hx : (tl z).getLast? = some x := by obtain ⟨a, r, _, _, _, _, e⟩ := hU; exact e
            have hq := hnb rfl x hx
            refine ⟨z, line, col, none, rfl, g03, hd3, hp3, fun y hy => ?_, hsc0, by omega, by omega⟩
            have q2 := blanks 0 (fun _ y hy => by
              rw [hy0] at hy
              cases hy
              have h2 := tok_head hw.wd.tok hy0
              refine ⟨hq.1, hq.2, fun z2 => h61 y0 hy0 z2.2 z2.1, fun z2 => h2.1 z2.2, fun z2 => h2.2 z2.2⟩) y hy
            rw [List.replicate_zero, List.append_nil] at q2
            simpa using q2
  rintro σ H4 ⟨z1, line1, col1, v10, rfl, g4, hd4, hp4, hU, hc0, hc1, hz1⟩
  have hp4' : H4 p = some (.lst [.str z1, .int line1, .int col1, .bl false]) := hp4
  refine ⟨_, rfl, p, _, _, _, rfl, rfl, SqL.of hp4', rfl, _, rfl, p, _, _, _, rfl, rfl, SqL.of hp4', rfl, by show 2 ≤ sizeLine; decide, fun pT hT => ?_⟩
  have hp5 : upd H4 pT (.tup [.int line1, .int col1]) p = some (.lst [.str z1, .int line1, .int col1, .bl false]) := (Same.new hT _) _ _ hp4'
  refine ⟨_, rfl, p, _, _, _, rfl, rfl, SqL.of hp5, rfl, _, rfl, _, _, rfl, rfl, by rw [sizeLine_eq]; omega, ?_⟩
  refine ⟨_, rfl, p, _, _, 0, rfl, rfl, hp5, rfl, ?_⟩
  have e6 : upd (upd H4 pT (.tup [.int line1, .int col1])) p (.lst [.str (z1 ++ wd), .int line1, .int col1, .bl false]) p = some (.lst [.str (z1 ++ wd), .int line1, .int col1, .bl false]) := upd_same
  refine ⟨_, rfl, p, _, _, _, rfl, rfl, SqL.of e6, rfl, _, rfl, _, rfl, hwl2, _, _, rfl, rfl, ?_⟩
  refine ⟨_, rfl, p, _, _, 2, rfl, rfl, e6, rfl, ?_⟩
  refine ⟨_, rfl, ?_⟩
  obtain ⟨y, hy⟩ : ∃ y, (tl wd).getLast? = some y := ⟨_, List.getLast?_eq_some_getLast hw.wd.ne⟩
  have et : tl (z1 ++ wd) = tl z1 ++ tl wd := TL.tl_append _ _
  refine q (z1 ++ wd) line1 (col1 + ((wd.length : Nat) : Int)) _ pT y hy (by rw [et]; exact hU y hy) ⟨hn, by omega, by omega, by rw [len_app]; omega⟩ ?_ ?_ upd_same
  · exact ((g4.trans (SameX.new hT _)).trans (SameX.put (by simp) _)).trans (SameX.put (by simp) _)
  · obtain ⟨a, b, e, h2⟩ := hd4
    exact ⟨a, b, by rw [upd_ne ndp, upd_ne ndp]; exact (Same.new hT _) _ _ e, h2⟩
end
end TP
set_option maxRecDepth 100000
set_option maxHeartbeats 4000000
namespace TP
open PySem L2
/-! ### a list, a tuple compared with the empty one -/
section
variable {X : Cx}
theorem op_ne_emptyT (hu : X.A.units < cLine) : OpR X (compareOp .NotEq) (fun x y H Q => ∃ (a b : Addr) (xs : List V), x = .ref a ∧ y = .ref b ∧ SqT X.K H a xs ∧ SqT X.K H b [] ∧ Q (.bl (!xs.isEmpty)) H) := by
  intro pins s σ H x y v u Q I r1 r2 h
  obtain ⟨a, b, xs, rfl, rfl, ha, hb, q⟩ := h
  cases r1
  cases r2
  obtain ⟨its, ra, ia, _⟩ := I.tuple ha
  obtain ⟨its2, rb, ib, _⟩ := I.tuple hb
  cases rb
  have ha' : s.heap.IsTuple a its.toArray := by
    obtain ⟨o, e, c, n, d⟩ := ia
    exact ⟨o, e, c, n, d⟩
  have hb' : s.heap.IsTuple b ([] : List Value).toArray := by
    obtain ⟨o, e, c, n, d⟩ := ib
    exact ⟨o, e, c, n, d⟩
  refine SeqAt.RcNeAt.tuples (e := fun _ => true) ha' hb' hu (fun j j1 j2 => absurd j2 (by simp)) X.prog X.w X.xe _ ⟨.bl (!xs.isEmpty), H, I, ?_, q⟩
  have hl := ra.length
  show Value.bool _ = Value.bool _
  congr 1
  cases xs with
  | nil =>
    cases its with
    | nil => rfl
    | cons _ _ => cases hl
  | cons x0 xr =>
    cases its with
    | nil => cases hl
    | cons _ _ => simp
theorem op_eq_emptyL (hu : X.A.units < cLine) : OpR X (compareOp .Eq) (fun x y H Q => ∃ (a b : Addr) (xs : List V), x = .ref a ∧ y = .ref b ∧ SqL X.K H a xs ∧ SqL X.K H b [] ∧ Q (.bl xs.isEmpty) H) := by
  intro pins s σ H x y v u Q I r1 r2 h
  obtain ⟨a, b, xs, rfl, rfl, ha, hb, q⟩ := h
  cases r1
  cases r2
  obtain ⟨its, ra, ia, _⟩ := I.list ha
  obtain ⟨its2, rb, ib, _⟩ := I.list hb
  cases rb
  have hl := ra.length
  cases xs with
  | nil =>
    cases its with
    | nil => exact SeqAt.eq_listAt (e := fun _ => true) ia.isList ib.isList rfl hu (fun j j1 j2 => absurd j2 (by simp)) ⟨.bl true, H, I, rfl, q⟩
    | cons _ _ => cases hl
  | cons x0 xr =>
    cases its with
    | nil => cases hl
    | cons _ _ => exact SeqAt.eq_list_lengthsAt ia.isList ib.isList (by simp) hu ⟨.bl false, H, I, rfl, q⟩
theorem op_ne_emptyL (hu : X.A.units < cLine) : OpR X (compareOp .NotEq) (fun x y H Q => ∃ (a b : Addr) (xs : List V), x = .ref a ∧ y = .ref b ∧ SqL X.K H a xs ∧ SqL X.K H b [] ∧ Q (.bl (!xs.isEmpty)) H) := by
  intro pins s σ H x y v u Q I r1 r2 h
  obtain ⟨a, b, xs, rfl, rfl, ha, hb, q⟩ := h
  cases r1
  cases r2
  obtain ⟨its, ra, ia, _⟩ := I.list ha
  obtain ⟨its2, rb, ib, _⟩ := I.list hb
  cases rb
  have hl := ra.length
  cases xs with
  | nil =>
    cases its with
    | nil => exact SeqAt.RcNeAt.lists (e := fun _ => true) ia.isList ib.isList rfl hu (fun j j1 j2 => absurd j2 (by simp)) X.prog X.w X.xe _ ⟨.bl false, H, I, rfl, q⟩
    | cons _ _ => cases hl
  | cons x0 xr =>
    cases its with
    | nil => cases hl
    | cons _ _ => exact SeqAt.RcNeAt.lists_lengths ia.isList ib.isList (by simp) hu X.prog X.w X.xe _ ⟨.bl true, H, I, rfl, q⟩
end

theorem at0 (x : V) (r : List V) : atI (x :: r) 0 = some x := atI_nat (j := 0) rfl
/-! ### trees -/
inductive Tr where
  | num (i : Int) | nil | use0 (x : Str) | use2 (x : Str) (a b : Tr) | op (s : Str) (l r : Tr) | ife (a b c : Tr) | lete (n : Str) (w b : Tr) | case (w e : Tr) (h t : Str) (b : Tr)
def TrAt (H : Hp) : Tr → V → Prop
  | .num i, v => ∃ (p : Addr) (q : V), v = .ref p ∧ H p = some (.tup [.str "num", q, .int i])
  | .nil, v => ∃ (p : Addr) (q : V), v = .ref p ∧ H p = some (.tup [.str "nil", q])
  | .use0 x, v => ∃ (p : Addr) (q : V) (a : Addr), v = .ref p ∧ H p = some (.tup [.str "use", q, .str x, .ref a]) ∧ H a = some (.tup [])
  | .use2 x t u, v => ∃ (p : Addr) (q : V) (a : Addr) (v1 v2 : V), v = .ref p ∧ H p = some (.tup [.str "use", q, .str x, .ref a]) ∧ H a = some (.tup [v1, v2]) ∧ TrAt H t v1 ∧ TrAt H u v2
  | .op s t u, v => ∃ (p : Addr) (q v1 v2 : V), v = .ref p ∧ H p = some (.tup [.str "op", q, .str s, v1, v2]) ∧ TrAt H t v1 ∧ TrAt H u v2
  | .ife a b c, v => ∃ (p : Addr) (q v1 v2 v3 : V), v = .ref p ∧ H p = some (.tup [.str "if", q, v1, v2, v3]) ∧ TrAt H a v1 ∧ TrAt H b v2 ∧ TrAt H c v3
  | .lete n t u, v => ∃ (p : Addr) (q v1 v2 : V), v = .ref p ∧ H p = some (.tup [.str "let", q, .str n, v1, v2]) ∧ TrAt H t v1 ∧ TrAt H u v2
  | .case a b h t c, v => ∃ (p : Addr) (q v1 v2 v3 : V), v = .ref p ∧ H p = some (.tup [.str "case", q, v1, v2, .str h, .str t, v3]) ∧ TrAt H a v1 ∧ TrAt H b v2 ∧ TrAt H c v3
def Tups (H H' : Hp) : Prop := ∀ b xs, H b = some (.tup xs) → H' b = some (.tup xs)
theorem TrAt.mono {H H' : Hp} (k : Tups H H') : ∀ (t : Tr) (v : V), TrAt H t v → TrAt H' t v := by
  intro t
  induction t with
  | num i => intro v h; obtain ⟨p, q, e, h1⟩ := h; exact ⟨p, q, e, k _ _ h1⟩
  | nil => intro v h; obtain ⟨p, q, e, h1⟩ := h; exact ⟨p, q, e, k _ _ h1⟩
  | use0 x => intro v h; obtain ⟨p, q, a, e, h1, h2⟩ := h; exact ⟨p, q, a, e, k _ _ h1, k _ _ h2⟩
  | use2 x a b ia ib => intro v h; obtain ⟨p, q, a, v1, v2, e, h1, h2, h3, h4⟩ := h; exact ⟨p, q, a, v1, v2, e, k _ _ h1, k _ _ h2, ia _ h3, ib _ h4⟩
  | op s a b ia ib => intro v h; obtain ⟨p, q, v1, v2, e, h1, h3, h4⟩ := h; exact ⟨p, q, v1, v2, e, k _ _ h1, ia _ h3, ib _ h4⟩
  | ife a b c ia ib ic => intro v h; obtain ⟨p, q, v1, v2, v3, e, h1, h3, h4, h5⟩ := h; exact ⟨p, q, v1, v2, v3, e, k _ _ h1, ia _ h3, ib _ h4, ic _ h5⟩
  | lete n a b ia ib => intro v h; obtain ⟨p, q, v1, v2, e, h1, h3, h4⟩ := h; exact ⟨p, q, v1, v2, e, k _ _ h1, ia _ h3, ib _ h4⟩
  | case a b h t c ia ib ic => intro v h; obtain ⟨p, q, v1, v2, v3, e, h1, h3, h4, h5⟩ := h; exact ⟨p, q, v1, v2, v3, e, k _ _ h1, ia _ h3, ib _ h4, ic _ h5⟩
/-- lists change alone -/
theorem SameX.tups {H H' : Hp} {ex : List Addr} (g : SameX ex H H') (n : ∀ a ∈ ex, ∀ xs, H a ≠ some (.tup xs)) : Tups H H' := fun b xs e => g _ _ e fun hb => n b hb xs e
def opsS : List Str := ["+", ":", "==", "-", "div"]
def NameOk (x : Str) : Prop := WordS "name" x
def Tr.Ok : Tr → Prop
  | .num i => 0 ≤ i ∧ i ≤ 8
  | .nil => True
  | .use0 x => NameOk x
  | .use2 x a b => NameOk x ∧ a.Ok ∧ b.Ok
  | .op s a b => s ∈ opsS ∧ a.Ok ∧ b.Ok
  | .ife a b c => a.Ok ∧ b.Ok ∧ c.Ok
  | .lete n a b => NameOk n ∧ a.Ok ∧ b.Ok
  | .case a b h t c => NameOk h ∧ NameOk t ∧ a.Ok ∧ b.Ok ∧ c.Ok
def Tr.depth : Tr → Nat
  | .num _ => 1
  | .nil => 1
  | .use0 _ => 1
  | .use2 _ a b => max a.depth b.depth + 1
  | .op _ a b => max a.depth b.depth + 1
  | .ife a b c => max a.depth (max b.depth c.depth) + 1
  | .lete _ a b => max a.depth b.depth + 1
  | .case a b _ _ c => max a.depth (max b.depth c.depth) + 1
def lvl : Tr → Int
  | .num _ => 8
  | .nil => 8
  | .use0 _ => 8
  | .use2 _ _ _ => 7
  | .op s _ _ => if s = "==" then 3 else if s = "<" then 3 else if s = ":" then 4 else if s = "+" then 5 else if s = "-" then 5 else 6
  | .ife _ _ _ => 0
  | .lete _ _ _ => 0
  | .case _ _ _ _ _ => 0
def lvlD : List (Key × V) := [(Sum.inr "==", .int 3), (Sum.inr "<", .int 3), (Sum.inr ":", .int 4), (Sum.inr "+", .int 5), (Sum.inr "-", .int 5)]
theorem lvl_op {s : Str} (h : s ∈ opsS) : (valV (mergeK [] lvlD) (Sum.inr s)).getD (.int 6) = .int (if s = "==" then 3 else if s = "<" then 3 else if s = ":" then 4 else if s = "+" then 5 else if s = "-" then 5 else 6) := by
  have k : ∀ s ∈ opsS, (valV (mergeK [] lvlD) (Sum.inr s)).getD (.int 6) = .int (if s = "==" then 3 else if s = "<" then 3 else if s = ":" then 4 else if s = "+" then 5 else if s = "-" then 5 else 6) := by decide +kernel
  exact k s h
def spLevel : Sp := fun vs H Q _ => ∃ (t : Tr) (v : V), vs = [v] ∧ TrAt H t v ∧ t.Ok ∧ ∀ H', Same H H' → Q (.int (lvl t)) H'
section
variable {P : Program} {w : World} {K : PySem.W.Frag} {mg : Str → Option Value} {base : Heap}
theorem scLevel : FnScope ["tree"] ["tree"] (defScope sLevel) := ⟨rfl, rfl, rfl, by decide +kernel, rfl, by decide +kernel, by decide +kernel⟩
theorem inV3 {x a b c : Str} : inV (.str x) [.str a, .str b, .str c] = decide (x ∈ [a, b, c]) := str_in (x := x) (xs := [a, b, c])
theorem ok_level {f : Addr} {fd : FuncData} (F : Fun K "_law_level" "_law_level" sLevel f fd) : FnOk P w K mg base CX0 1 f fd ["tree"] spLevel := by
  refine F.ok scLevel (fun vs H Q E h => ?_) (fun cdv A outer s H vs Q E hr h => ?_)
  · obtain ⟨t, v, rfl, _⟩ := h
    rfl
  obtain ⟨t, v, rfl, ht, hok, q⟩ := h
  refine ⟨_, pss_cons (ps_if (pt_cmpR op_in_seq (pe_ix ix_tup (pv 0) pe_int (fun _ _ => rfl)) (pe_tup (pa_cons pe_str (pa_cons pe_str (pa_cons pe_str pa_nil)))) (by rfl)) (pss_one (ps_ret pe_int)) pss_nil)
    (pss_cons (ps_if (pt_cmpR op_eq (pe_ix ix_tup (pv 0) pe_int (fun _ _ => rfl)) pe_str (nomark _))
      (pss_one (ps_ret (pe_dget2 (hu_of hr) (pe_disp (pps_cons pe_str pe_int (pps_cons pe_str pe_int (pps_cons pe_str pe_int (pps_cons pe_str pe_int (pps_cons pe_str pe_int pps_nil))))) (by rfl) (by rfl) (fun z => by cases z) (by decide)) (pe_ix ix_tup (pv 0) pe_int (fun _ _ => rfl)) pe_int ⟨rfl, rfl, rfl, rfl⟩))) pss_nil)
    (pss_one (ps_ret (pe_ifExp (PW.pt (pw_and (pt_cmpR op_eq (pe_ix ix_tup (pv 0) pe_int (fun _ _ => rfl)) pe_str (nomark _)) (pw_and1 (pt_cmpR (op_ne_emptyT hr.units0) (pe_ix ix_tup (pv 0) pe_int (fun _ _ => rfl)) (pe_tup pa_nil) (nomark _))))) pe_int pe_int)))), ?_⟩
  -- the first item is a text; what follows by it
  have first : ∀ (p : Addr) (k : Str) (r : List V), v = .ref p → H p = some (.tup (.str k :: r)) →
      (∀ H1, Same H H1 → k ∈ (["if", "let", "case"] : List Str) → Q (.int 0) H1) → (∀ H1, Same H H1 → k ∉ (["if", "let", "case"] : List Str) →
        (tSeq (tIfS (tTest (tOp rEq (tOp (rIxT K) (tVar 0) (tC (.int 0))) (tC (.str "op"))))
          (tRet (tDGet2 (tDisp [(tC (.str "=="), tC (.int 3)), (tC (.str "<"), tC (.int 3)), (tC (.str ":"), tC (.int 4)), (tC (.str "+"), tC (.int 5)), (tC (.str "-"), tC (.int 5))]) (tOp (rIxT K) (tVar 0) (tC (.int 2))) (tC (.int 6)))) tNext)
          (tRet (tIf (tAnd (tTest (tOp rEq (tOp (rIxT K) (tVar 0) (tC (.int 0))) (tC (.str "use")))) (tTest (tOp (fun x y H Q => ∃ (a b : Addr) (xs : List V), x = .ref a ∧ y = .ref b ∧ SqT K H a xs ∧ SqT K H b [] ∧ Q (.bl (!xs.isEmpty)) H) (tOp (rIxT K) (tVar 0) (tC (.int 3))) (tTup tNil)))) (tC (.int 7)) (tC (.int 8)))))
          { nx := fun _ H' => Q .non H', rt := Q } [some v] H1) →
      (tSeq (tIfS (tTest (tOp (rIn K false) (tOp (rIxT K) (tVar 0) (tC (.int 0))) (tTup (tCons (tC (.str "if")) (tCons (tC (.str "let")) (tCons (tC (.str "case")) tNil)))))) (tRet (tC (.int 0))) tNext)
        (tSeq (tIfS (tTest (tOp rEq (tOp (rIxT K) (tVar 0) (tC (.int 0))) (tC (.str "op"))))
          (tRet (tDGet2 (tDisp [(tC (.str "=="), tC (.int 3)), (tC (.str "<"), tC (.int 3)), (tC (.str ":"), tC (.int 4)), (tC (.str "+"), tC (.int 5)), (tC (.str "-"), tC (.int 5))]) (tOp (rIxT K) (tVar 0) (tC (.int 2))) (tC (.int 6)))) tNext)
          (tRet (tIf (tAnd (tTest (tOp rEq (tOp (rIxT K) (tVar 0) (tC (.int 0))) (tC (.str "use")))) (tTest (tOp (fun x y H Q => ∃ (a b : Addr) (xs : List V), x = .ref a ∧ y = .ref b ∧ SqT K H a xs ∧ SqT K H b [] ∧ Q (.bl (!xs.isEmpty)) H) (tOp (rIxT K) (tVar 0) (tC (.int 3))) (tTup tNil)))) (tC (.int 7)) (tC (.int 8))))))
          { nx := fun _ H' => Q .non H', rt := Q } [some v] H := by
    intro p k r ev hp h1 h2
    refine ⟨_, rfl, p, _, _, _, ev, rfl, SqT.of hp, at0 _ _, by show 3 ≤ sizeLine; decide, fun pT hT => ?_⟩
    refine ⟨pT, _, rfl, .inr (SqT.of upd_same), rfl, rfl, _, rfl, ?_⟩
    show (if inV (.str k) [.str "if", .str "let", .str "case"] = true then _ else _)
    rw [inV3]
    refine ite2 (fun c => ?_) (fun c => ?_)
    · exact h1 _ (Same.new hT _) (of_decide_eq_true c)
    · exact h2 _ (Same.new hT _) (of_decide_eq_false (Bool.eq_false_iff.mpr c))
  -- what is no op
  have other : ∀ (p : Addr) (k : Str) (r : List V) (H1 : Hp), v = .ref p → H1 p = some (.tup (.str k :: r)) → k ≠ "op" →
      (k = "use" → ∃ (x y : V) (a : Addr) (xs : List V), r = [x, y, .ref a] ∧ H1 a = some (.tup xs) ∧ ∀ H2, Same H1 H2 → Q (.int (if xs.isEmpty then 8 else 7)) H2) → (k ≠ "use" → Q (.int 8) H1) →
        (tSeq (tIfS (tTest (tOp rEq (tOp (rIxT K) (tVar 0) (tC (.int 0))) (tC (.str "op"))))
          (tRet (tDGet2 (tDisp [(tC (.str "=="), tC (.int 3)), (tC (.str "<"), tC (.int 3)), (tC (.str ":"), tC (.int 4)), (tC (.str "+"), tC (.int 5)), (tC (.str "-"), tC (.int 5))]) (tOp (rIxT K) (tVar 0) (tC (.int 2))) (tC (.int 6)))) tNext)
          (tRet (tIf (tAnd (tTest (tOp rEq (tOp (rIxT K) (tVar 0) (tC (.int 0))) (tC (.str "use")))) (tTest (tOp (fun x y H Q => ∃ (a b : Addr) (xs : List V), x = .ref a ∧ y = .ref b ∧ SqT K H a xs ∧ SqT K H b [] ∧ Q (.bl (!xs.isEmpty)) H) (tOp (rIxT K) (tVar 0) (tC (.int 3))) (tTup tNil)))) (tC (.int 7)) (tC (.int 8)))))
          { nx := fun _ H' => Q .non H', rt := Q } [some v] H1 := by
    intro p k r H1 ev hp hne hu hn
    refine ⟨_, rfl, p, _, _, _, ev, rfl, SqT.of hp, at0 _ _, rfl, _, rfl, ?_⟩
    rw [str_dec, decide_eq_false hne]
    refine iteF ?_
    refine ⟨_, rfl, p, _, _, _, ev, rfl, SqT.of hp, at0 _ _, rfl, _, rfl, ?_⟩
    rw [str_dec]
    by_cases hk : k = "use"
    · rw [decide_eq_true hk]
      refine iteT ?_
      obtain ⟨x, y, a, xs, rfl, ha, q1⟩ := hu hk
      refine ⟨_, rfl, p, _, _, _, ev, rfl, SqT.of hp, rfl, Nat.zero_le _, fun pE hE => ?_⟩
      refine ⟨a, pE, xs, rfl, rfl, SqT.of ((Same.new hE _) _ _ ha), SqT.of upd_same, _, rfl, ?_⟩
      cases xs with
      | nil => exact iteF (q1 _ (Same.new hE _))
      | cons x0 xr => exact iteT (q1 _ (Same.new hE _))
    · rw [decide_eq_false hk]
      exact iteF (iteF (hn hk))
  have sameR : Same H H := fun _ _ e => e
  cases t with
  | num i =>
    obtain ⟨p, y, rfl, hp⟩ := ht
    refine first p _ _ rfl hp (fun H1 g c => absurd c (by decide +kernel)) fun H1 g _ => other p _ _ H1 rfl (g _ _ hp) (by decide +kernel) (fun c => absurd c (by decide +kernel)) fun _ => q H1 g
  | nil =>
    obtain ⟨p, y, rfl, hp⟩ := ht
    refine first p _ _ rfl hp (fun H1 g c => absurd c (by decide +kernel)) fun H1 g _ => other p _ _ H1 rfl (g _ _ hp) (by decide +kernel) (fun c => absurd c (by decide +kernel)) fun _ => q H1 g
  | use0 x =>
    obtain ⟨p, y, a, rfl, hp, ha⟩ := ht
    refine first p _ _ rfl hp (fun H1 g c => absurd c (by decide +kernel)) fun H1 g _ => other p _ _ H1 rfl (g _ _ hp) (by decide +kernel) (fun c => ⟨_, _, a, [], rfl, g _ _ ha, fun H2 g2 => q H2 (g.trans g2)⟩) fun c => absurd rfl c
  | use2 x t u =>
    obtain ⟨p, y, a, v1, v2, rfl, hp, ha, _, _⟩ := ht
    refine first p _ _ rfl hp (fun H1 g c => absurd c (by decide +kernel)) fun H1 g _ => other p _ _ H1 rfl (g _ _ hp) (by decide +kernel) (fun c => ⟨_, _, a, [v1, v2], rfl, g _ _ ha, fun H2 g2 => q H2 (g.trans g2)⟩) fun c => absurd rfl c
  | ife a b c =>
    obtain ⟨p, y, v1, v2, v3, rfl, hp, _⟩ := ht
    exact first p _ _ rfl hp (fun H1 g _ => q H1 g) fun H1 g c => absurd (by decide +kernel) c
  | lete n a b =>
    obtain ⟨p, y, v1, v2, rfl, hp, _⟩ := ht
    exact first p _ _ rfl hp (fun H1 g _ => q H1 g) fun H1 g c => absurd (by decide +kernel) c
  | case a b h t c =>
    obtain ⟨p, y, v1, v2, v3, rfl, hp, _⟩ := ht
    exact first p _ _ rfl hp (fun H1 g _ => q H1 g) fun H1 g c => absurd (by decide +kernel) c
  | op s a b =>
    obtain ⟨p, y, v1, v2, rfl, hp, _⟩ := ht
    refine first p _ _ rfl hp (fun H1 g c => absurd c (by decide +kernel)) fun H1 g _ => ?_
    refine ⟨_, rfl, p, _, _, _, rfl, rfl, SqT.of (g _ _ hp), rfl, rfl, _, rfl, ?_⟩
    rw [str_dec, decide_eq_true rfl]
    refine iteT ?_
    refine fun pD hD => ?_
    refine ⟨upd_same, lvlD, rfl, by decide, ?_⟩
    have npD : p ≠ pD := ne_of_none (g _ _ hp) hD
    refine ⟨pD, rfl, .inl ⟨_, .inl upd_same⟩, ?_⟩
    refine ⟨_, rfl, p, _, _, _, rfl, rfl, SqT.of (by rw [upd_ne npD, upd_ne npD]; exact g _ _ hp), rfl, ?_⟩
    refine ⟨_, DGet.k (k := Sum.inr s) upd_same, ?_⟩
    have e := lvl_op hok.1
    show Q ((valV (mergeK [] lvlD) (Sum.inr s)).getD (.int 6)) _
    rw [e]
    refine q _ (g.trans fun b o eb => ?_)
    have nb : b ≠ pD := ne_of_none eb hD
    rw [upd_ne nb, upd_ne nb]
    exact eb
end
end TP
set_option maxRecDepth 100000
set_option maxHeartbeats 4000000
namespace TP
open PySem L2
def spItem : Sp := fun vs H Q _ => ∃ (d p : Addr) (z : Str) (line col : Int) (fl : Bool) (st : List Int) (ah : Option Mrk) (r : List Nat) (c : Nat), vs = [.ref d, .ref p, .int (c : Nat)] ∧ DrAt H d ∧ PenH H p z line col fl ∧ PenB (tl z) line col st ah r ∧ c ≤ 9000 ∧ z.length ≤ 4000000 ∧
  ∀ (z' : Str) (line' : Int) (H' : Hp), z'.length ≤ z.length + 36 + c → Lined (tl z) line st ah (tl z') line' (c : Nat) → SameX [d, p] H H' → DrAt H' d → PenH H' p z' line' (c : Nat) true → Q .non H'
section
variable {P : Program} {w : World} {K : PySem.W.Frag} {mg : Str → Option Value} {base : Heap}
theorem scItem : FnScope ["draws", "pen", "column"] ["draws", "pen", "column"] (defScope sItem) := ⟨rfl, rfl, rfl, by decide +kernel, rfl, by decide +kernel, by decide +kernel⟩
theorem ok_item {f fL : Addr} {fd fdL : FuncData} (F : Fun K "_law_item" "_law_item" sItem f fd) (DL : Df K mg "_law_line" sLine fL fdL ["draws", "pen", "column"]) (GL : FnOk P w K mg base CX0 2 fL fdL ["draws", "pen", "column"] spLine) :
    FnOk P w K mg base CX0 3 f fd ["draws", "pen", "column"] spItem := by
  refine F.ok scItem (fun vs H Q E h => ?_) (fun cdv A outer s H vs Q E hr h => ?_)
  · obtain ⟨d, p, z, line, col, fl, st, ah, r, c, rfl, _⟩ := h
    rfl
  obtain ⟨d, p, z, line, col, fl, st, ah, r, c, rfl, hd, hp, hB, hc, hz, q⟩ := h
  refine ⟨_, pss_cons (ps_expr (pe_call GL hr rfl DL.g DL.F.kp DL.b .nil pass0 (pa_cons (pv 0) (pa_cons (pv 1) (pa_cons (pv 2) pa_nil)))))
    (pss_one (ps_asg pe_bl (pg_sub (pv 1) pe_int set_list))), ?_⟩
  refine ⟨_, rfl, _, rfl, _, rfl, d, p, z, line, col, fl, st, ah, r, c, rfl, hd, hp, hB, hc, hz, fun z' line' H1 h1 hL g1 hd1 hp1 => ?_⟩
  have hp1' : H1 p = some (.lst [.str z', .int line', .int (c : Nat), .bl fl]) := hp1
  have ndp : d ≠ p := hd1.ne hp1
  refine ⟨_, rfl, p, _, _, 3, rfl, rfl, hp1', rfl, ?_⟩
  refine q z' line' _ h1 hL (g1.trans (SameX.put (by simp) _)) ?_ upd_same
  obtain ⟨a, b, e, h2⟩ := hd1
  exact ⟨a, b, by rw [upd_ne ndp]; exact e, h2⟩

def spBlock : Sp := fun vs H Q _ => ∃ (d p : Addr) (z : Str) (line col least : Int) (S : List Int) (x n : Nat), vs = [.ref d, .ref p, .int least] ∧ DrAt H d ∧ PenH H p z line col false ∧ PenU (tl z) line col S true x ∧ (∀ e ∈ S, e ≤ least) ∧ S.length < 24 ∧ Sz n z col ∧ 0 ≤ least ∧ least ≤ 20 * ((n : Nat) : Int) ∧ n + 1 ≤ 400 ∧
  ∀ (z' : Str) (line' c : Int) (H' : Hp), least < c → PenF (tl z') line' c (c :: S) → Sz (n + 1) z' c → SameX [d, p] H H' → DrAt H' d → PenH H' p z' line' c true → Q (.int c) H'
theorem scBlock : FnScope ["draws", "pen", "least", "many"] ["draws", "pen", "least"] (defScope sBlock) := ⟨rfl, rfl, rfl, by decide +kernel, rfl, by decide +kernel, by decide +kernel⟩
theorem ok_block {f fD fI : Addr} {fd fdD fdI : FuncData} (F : Fun K "_law_block" "_law_block" sBlock f fd) (DD : Df K mg "_law_draw" sDraw fD fdD ["draws", "many"]) (DI : Df K mg "_law_item" sItem fI fdI ["draws", "pen", "column"]) (GI : FnOk P w K mg base CX0 3 fI fdI ["draws", "pen", "column"] spItem) :
    FnOk P w K mg base CX0 4 f fd ["draws", "pen", "least"] spBlock := by
  have GD : Draw P w K mg base fD fdD := ok_draw DD.F
  refine F.ok scBlock (fun vs H Q E h => ?_) (fun cdv A outer s H vs Q E hr h => ?_)
  · obtain ⟨d, p, z, line, col, least, S, x, n, rfl, _⟩ := h
    rfl
  obtain ⟨d, p, z, line, col, least, S, x, n, rfl, hd, hp, hU, hS, h24, hsz, hl0, hl1, hn, q⟩ := h
  have hr1 : Room 1 _ := hr.mono (by decide)
  refine ⟨_, pss_cons (ps_if (PW.pt (pw_and (pt_cmpR op_gt (pe_op op_add (pe_ix ix_list (pv 1) pe_int (fun _ _ => rfl)) pe_int) (pv 2) (nomark _)) (pw_and1 (pt_cmpR op_eq (pe_call GD hr1 rfl DD.g DD.F.kp DD.b .nil pass0 (pa_cons (pv 0) (pa_cons pe_int pa_nil))) pe_int (nomark _)))))
      (pss_cons (ps_set (i := 3) scBlock.nd rfl (Or.inl rfl) (pe_op op_add pe_int (pe_call GD hr1 rfl DD.g DD.F.kp DD.b .nil pass0 (pa_cons (pv 0) (pa_cons pe_int pa_nil)))))
      (pss_cons (ps_asg (pe_op op_add_str (pe_ix ix_list (pv 1) pe_int (fun _ _ => rfl)) (pe_op op_mulStr pe_str (pv 3))) (pg_sub (pv 1) pe_int set_list))
      (pss_cons (ps_asg (pe_op op_add (pe_ix ix_list (pv 1) pe_int (fun _ _ => rfl)) (pv 3)) (pg_sub (pv 1) pe_int set_list))
      (pss_one (ps_asg pe_bl (pg_sub (pv 1) pe_int set_list))))))
      (pss_one (ps_expr (pe_call GI hr rfl DI.g DI.F.kp DI.b .nil pass0 (pa_cons (pv 0) (pa_cons (pv 1) (pa_cons (pe_op op_add (pe_op op_add (pv 2) pe_int) (pe_call GD hr1 rfl DD.g DD.F.kp DD.b .nil pass0 (pa_cons (pv 0) (pa_cons pe_int pa_nil)))) pa_nil)))))))
    (pss_one (ps_ret (pe_ix ix_list (pv 1) pe_int (fun _ _ => rfl)))), ?_⟩
  have hp' : H p = some (.lst [.str z, .int line, .int col, .bl false]) := hp
  have ndp : d ≠ p := hd.ne hp
  have hsn := hsz.nle
  have hsc0 := hsz.c0
  have hsc1 := hsz.c1
  have hszz := hsz.zl
  -- on a line of its own
  have own : ∀ H1, SameX [d, p] H H1 → DrAt H1 d → PenH H1 p z line col false → (tDrop (tCall spItem [] E0 (tCons (tVar 0) (tCons (tVar 1) (tCons (tOp (rI0 fun i j => .int (i + j)) (tOp (rI0 fun i j => .int (i + j)) (tVar 2) (tC (.int 1))) (tCall spDraw [] E0 (tCons (tVar 0) (tCons (tC (.int 4)) tNil)))) tNil)))))
      { nx := tRet (tOp (rIxL K) (tVar 1) (tC (.int 2))) { nx := fun _ H' => Q .non H', rt := Q }, rt := Q } [some (.ref d), some (.ref p), some (.int least), none] H1 := by
    intro H1 g1 hd1 hp1
    refine ⟨_, rfl, _, rfl, _, rfl, _, _, rfl, rfl, _, rfl, d, 4, rfl, by decide, by decide, hd1, fun v H2 hv0 hv1 g2 hd2 => ?_⟩
    have hp2 : PenH H2 p z line col false := hp1.keep g2 (by simpa using Ne.symm ndp)
    obtain ⟨c0, hc0⟩ : ∃ c0 : Nat, least + 1 + v = ((c0 : Nat) : Int) := ⟨(least + 1 + v).toNat, by omega⟩
    obtain ⟨a, r, hB, hal, hao, hrl, htl2⟩ := id hU
    refine ⟨_, _, rfl, rfl, ?_⟩
    refine ⟨d, p, z, line, col, false, S, some a, r, c0, by rw [← hc0]; rfl, hd2, hp2, hB, by omega, by omega, fun z1 line1 H3 hz1 hL g3 hd3 hp3 => ?_⟩
    have hp3' : H3 p = some (.lst [.str z1, .int line1, .int (c0 : Nat), .bl true]) := hp3
    refine ⟨_, rfl, p, _, _, _, rfl, rfl, SqL.of hp3', rfl, ?_⟩
    refine q z1 line1 ((c0 : Nat) : Int) H3 (by omega) (Lined.block hL hao (fun e he => ?_) h24) ⟨hn, by omega, by omega, by omega⟩ ((g1.trans (g2.mono (by simp))).trans g3) hd3 hp3
    have := hS e he
    omega
  refine ⟨_, rfl, p, _, _, _, rfl, rfl, SqL.of hp', rfl, _, _, rfl, rfl, _, rfl, _, _, rfl, rfl, _, rfl, ?_⟩
  refine ite2 (fun c => ?_) (fun c => ?_)
  · have c1 : least < col + 1 := of_decide_eq_true c
    refine ⟨_, rfl, d, 2, rfl, by decide, by decide, hd, fun v H1 hv0 hv1 g1 hd1 => ?_⟩
    have hp1 : H1 p = some (.lst [.str z, .int line, .int col, .bl false]) := g1 _ _ hp' (by simpa using Ne.symm ndp)
    refine ⟨rfl, _, rfl, ?_⟩
    refine ite2 (fun c2 => ?_) (fun c2 => ?_)
    · refine ⟨_, rfl, d, 3, rfl, by decide, by decide, hd1, fun v2 H2 hv20 hv21 g2 hd2 => ?_⟩
      have hp2 : H2 p = some (.lst [.str z, .int line, .int col, .bl false]) := g2 _ _ hp1 (by simpa using Ne.symm ndp)
      refine ⟨_, _, rfl, rfl, ?_⟩
      obtain ⟨m, hm⟩ : ∃ m : Nat, 1 + v2 = ((m : Nat) : Int) := ⟨(1 + v2).toNat, by omega⟩
      show (tSeq _ _) _ ([some (.ref d), some (.ref p), some (.int least), some (.int (1 + v2))]) H2
      rw [hm]
      have lb := len_blanks m
      refine ⟨_, rfl, p, _, _, _, rfl, rfl, SqL.of hp2, rfl, _, rfl, _, _, rfl, rfl, by decide +kernel, by omega, by omega, _, _, rfl, rfl, by rw [lb, sizeLine_eq]; omega, ?_⟩
      refine ⟨_, rfl, p, _, _, 0, rfl, rfl, hp2, rfl, ?_⟩
      have e6 : upd H2 p (.lst [.str (z ++ Txt.mul (" " : Str) (m : Nat)), .int line, .int col, .bl false]) p = some (.lst [.str (z ++ Txt.mul (" " : Str) (m : Nat)), .int line, .int col, .bl false]) := upd_same
      refine ⟨_, rfl, p, _, _, _, rfl, rfl, SqL.of e6, rfl, _, rfl, _, _, rfl, rfl, ?_⟩
      refine ⟨_, rfl, p, _, _, 2, rfl, rfl, e6, rfl, ?_⟩
      refine ⟨_, rfl, p, _, _, 3, rfl, rfl, upd_same, rfl, ?_⟩
      refine ⟨_, rfl, p, _, _, _, rfl, rfl, SqL.of upd_same, rfl, ?_⟩
      have et : tl (z ++ Txt.mul (" " : Str) (m : Nat)) = tl z ++ List.replicate m 32 := by
        show TL.tl _ = _
        rw [TL.tl_append]
        show tl z ++ tl (Txt.mul (" " : Str) (m : Nat)) = _
        rw [tl_blanks]
      refine q (z ++ Txt.mul (" " : Str) (m : Nat)) line (col + ((m : Nat) : Int)) _ (by omega) ?_ ⟨hn, by omega, by omega, by rw [len_app, lb]; omega⟩ ?_ ?_ upd_same
      · rw [et]
        exact hU.block m (by omega) (fun e he => by have := hS e he; omega) h24
      · exact (((((g1.mono (by simp))).trans (g2.mono (by simp))).trans (SameX.put (by simp) _)).trans (SameX.put (by simp) _)).trans (SameX.put (by simp) _)
      · obtain ⟨a, b, e, h2⟩ := hd2
        exact ⟨a, b, by rw [upd_ne ndp, upd_ne ndp, upd_ne ndp]; exact e, h2⟩
    · exact own H1 (g1.mono (by simp)) hd1 hp1
  · refine iteF ?_
    exact own H (SameX.refl _ _) hd hp
end
end TP
set_option maxRecDepth 100000
set_option maxHeartbeats 4000000
namespace TP
open PySem L2
/-! ### the writer's states -/
/-- behind a mark -/
structure WU (H : Hp) (d p : Addr) (z : Str) (line col : Int) (S : List Int) (op : Bool) (x n : Nat) : Prop where
  dr : DrAt H d
  pn : PenH H p z line col false
  pu : PenU (tl z) line col S op x
  sz : Sz n z col
/-- at the place of the next mark -/
structure WF (H : Hp) (d p : Addr) (z : Str) (line col : Int) (S : List Int) (n : Nat) : Prop where
  dr : DrAt H d
  pn : PenH H p z line col true
  pf : PenF (tl z) line col S
  sz : Sz n z col
/-- ready for a word -/
structure WS (H : Hp) (d p : Addr) (z : Str) (line col : Int) (fl : Bool) (least : Int) (fr : Bool) (S : List Int) (x n : Nat) : Prop where
  dr : DrAt H d
  pn : PenH H p z line col fl
  rd : Rdy (tl z) line col fl S x
  x0 : fl = true → x = 0
  tp : Top S least fr
  sz : Sz n z col
  l0 : 0 ≤ least
  l1 : least ≤ 20 * ((n : Nat) : Int)
section
variable {H H1 : Hp} {d p : Addr} {z : Str} {line col least : Int} {fl fr op : Bool} {S : List Int} {x n : Nat}
theorem WU.ws (u : WU H d p z line col S false x n) (tp : Top S least fr) (l0 : 0 ≤ least) (l1 : least ≤ 20 * ((n : Nat) : Int)) : WS H d p z line col false least fr S x n :=
  ⟨u.dr, u.pn, ⟨fun e => Bool.noConfusion e, fun _ => u.pu⟩, fun e => Bool.noConfusion e, tp, u.sz, l0, l1⟩
theorem WF.ws (u : WF H d p z line col S n) (tp : Top S least fr) (l0 : 0 ≤ least) (l1 : least ≤ 20 * ((n : Nat) : Int)) : WS H d p z line col true least fr S 0 n :=
  ⟨u.dr, u.pn, ⟨fun _ => u.pf, fun e => Bool.noConfusion e⟩, fun _ => rfl, tp, u.sz, l0, l1⟩
theorem WU.step (u : WU H d p z line col S op x n) (g : SameX [d] H H1) (hd : DrAt H1 d) : WU H1 d p z line col S op x n :=
  ⟨hd, u.pn.keep g (by simpa using Ne.symm (u.dr.ne u.pn)), u.pu, u.sz⟩
theorem WU.grow (u : WU H d p z line col S op x n) (g : Same H H1) : WU H1 d p z line col S op x n :=
  ⟨u.dr.keep (SameX.of g) (ex := []) (by simp), g _ _ u.pn, u.pu, u.sz⟩
theorem WF.step (u : WF H d p z line col S n) (g : SameX [d] H H1) (hd : DrAt H1 d) : WF H1 d p z line col S n :=
  ⟨hd, u.pn.keep g (by simpa using Ne.symm (u.dr.ne u.pn)), u.pf, u.sz⟩
theorem WF.grow (u : WF H d p z line col S n) (g : Same H H1) : WF H1 d p z line col S n :=
  ⟨u.dr.keep (SameX.of g) (ex := []) (by simp), g _ _ u.pn, u.pf, u.sz⟩
theorem WS.step (u : WS H d p z line col fl least fr S x n) (g : SameX [d] H H1) (hd : DrAt H1 d) : WS H1 d p z line col fl least fr S x n :=
  ⟨hd, u.pn.keep g (by simpa using Ne.symm (u.dr.ne u.pn)), u.rd, u.x0, u.tp, u.sz, u.l0, u.l1⟩
theorem WS.grow (u : WS H d p z line col fl least fr S x n) (g : Same H H1) : WS H1 d p z line col fl least fr S x n :=
  ⟨u.dr.keep (SameX.of g) (ex := []) (by simp), g _ _ u.pn, u.rd, u.x0, u.tp, u.sz, u.l0, u.l1⟩
theorem dp_tups {H' : Hp} (hd : DrAt H d) (hp : PenH H p z line col fl) (g : SameX [d, p] H H') : Tups H H' := g.tups (by
  intro a ha xs e
  simp only [List.mem_cons, List.not_mem_nil, or_false] at ha
  rcases ha with rfl | rfl
  · obtain ⟨a, b, e2, _⟩ := hd
    rw [e] at e2
    cases e2
  · have e2 : H a = _ := hp
    rw [e] at e2
    cases e2)
theorem d_tups {H' : Hp} (hd : DrAt H d) (g : SameX [d] H H') : Tups H H' := g.tups (by
  intro a ha xs e
  simp only [List.mem_cons, List.not_mem_nil, or_false] at ha
  subst ha
  obtain ⟨a, b, e2, _⟩ := hd
  rw [e] at e2
  cases e2)
theorem Same.tups {H' : Hp} (g : Same H H') : Tups H H' := fun b xs e => g _ _ e
theorem Tups.trans {H2 : Hp} (a : Tups H H1) (b : Tups H1 H2) : Tups H H2 := fun c xs e => b _ _ (a _ _ e)
theorem Tups.of_put {q : Addr} {o : HO} (h : H q = none) : Tups H (upd H q o) := Same.tups (Same.new h o)

/-- a word is written -/
theorem word_go (u : WS H d p z line col fl least fr S x n) {k w : Str} {S' : List Int} {Q : VK} {E : XK} (hw : WordS k w) (h61 : (tl w).head? = some 61 → x ≠ 61) (hb : brkS k w S = some S') (hn : n + 1 ≤ 400)
    (h : ∀ (z' : Str) (line' col' : Int) (H' : Hp) (q : Addr) (y : Nat), (tl w).getLast? = some y → WU H' d p z' line' col' S' (isOp k (tl w)) y (n + 1) → SameX [d, p] H H' → Q (.ref q) H') :
    spWord [.ref d, .ref p, .str w, .int least, .bl fr] H Q E :=
  ⟨d, p, z, w, line, col, least, fl, fr, k, S, S', x, n, rfl, u.dr, u.pn, hw, u.rd, fun y hy e => h61 (by rw [hy, e]), u.tp, hb, u.sz, u.l0, u.l1, hn,
    fun z' line' col' H' q y hy hU hS g hd' hp' => h z' line' col' H' q y hy ⟨hd', hp', hU, hS⟩ g⟩
/-- a new line's first mark stands where blocks to its right close -/
theorem item_go {ex S0 : List Int} {c0 c : Int} {Q : VK} {E : XK} (u : WU H d p z line col (ex ++ c0 :: S0) false x n) (hex : ∀ e ∈ ex, c < e) (hc : c0 ≤ c) (h0 : 0 ≤ c) (h1 : c ≤ 20 * ((n : Nat) : Int)) (hn : n + 1 ≤ 400)
    (h : ∀ (z' : Str) (line' : Int) (H' : Hp), WF H' d p z' line' c (c0 :: S0) (n + 1) → SameX [d, p] H H' → Q .non H') : spItem [.ref d, .ref p, .int c] H Q E := by
  obtain ⟨a, r, hB, hal, hao, _, _⟩ := u.pu
  obtain ⟨k, rfl⟩ : ∃ k : Nat, c = ((k : Nat) : Int) := ⟨c.toNat, by omega⟩
  have hz := u.sz.zl
  have hn2 := u.sz.nle
  refine ⟨d, p, z, line, col, false, _, some a, r, k, rfl, u.dr, u.pn, hB, by omega, by omega, fun z' line' H' hl hL g hd' hp' => h z' line' H' ⟨hd', hp', Lined.item hL (by omega) hao hex hc, ⟨hn, h0, by omega, by omega⟩⟩ g⟩
/-- a block begins -/
theorem block_go {Q : VK} {E : XK} (u : WU H d p z line col S true x n) (hS : ∀ e ∈ S, e ≤ least) (h24 : S.length < 24) (l0 : 0 ≤ least) (l1 : least ≤ 20 * ((n : Nat) : Int)) (hn : n + 1 ≤ 400)
    (h : ∀ (z' : Str) (line' c : Int) (H' : Hp), least < c → WF H' d p z' line' c (c :: S) (n + 1) → SameX [d, p] H H' → Q (.int c) H') : spBlock [.ref d, .ref p, .int least] H Q E :=
  ⟨d, p, z, line, col, least, S, x, n, rfl, u.dr, u.pn, u.pu, hS, h24, u.sz, l0, l1, hn, fun z' line' c H' hc hF hS g hd' hp' => h z' line' c H' hc ⟨hd', hp', hF, hS⟩ g⟩
end
theorem Top.push {S : List Int} {least c : Int} {fr : Bool} (t : Top S least fr) (hc : least < c) : Top (c :: S) c false :=
  ⟨by simp, fun e he => by
    rcases List.mem_cons.mp he with e1 | e1
    · omega
    · have := t.le e e1
      omega, fun e => Bool.noConfusion e⟩
theorem Top.brk {S : List Int} {least : Int} {fr : Bool} (t : Top S least fr) (h : 0 ≤ least) : Top (-1 :: S) least true :=
  ⟨by simp, fun e he => by
    rcases List.mem_cons.mp he with e1 | e1
    · omega
    · exact t.le e e1, fun _ => rfl⟩
theorem Top.up {S : List Int} {least : Int} {fr : Bool} (t : Top S least fr) : Top S (least + 1) fr := ⟨t.ne, fun e he => by have := t.le e he; omega, t.fr⟩
theorem Top.self {S : List Int} {c : Int} (h : ∀ e ∈ S, e ≤ c) : Top (c :: S) c false := ⟨by simp, fun e he => by
    rcases List.mem_cons.mp he with e1 | e1
    · omega
    · exact h e e1, fun e => Bool.noConfusion e⟩

/-! ### the words -/
theorem word_by {k w : Str} (h : (decide (tok (tl w) = some (k, tl w)) && decide (10 ∉ tl w) && decide (35 ∉ tl w) && decide (32 ∉ tl w) && decide (tl w ≠ []) && decide (w.length ≤ 8)) = true) : WordS k w := by
  simp only [Bool.and_eq_true, decide_eq_true_eq] at h
  obtain ⟨⟨⟨⟨⟨h1, h2⟩, h3⟩, h4⟩, h5⟩, h6⟩ := h
  exact ⟨⟨h1, h2, h3, h4, h5⟩, h6⟩
theorem w_let : WordS "key" "let" := word_by (by decide +kernel)
theorem w_of : WordS "key" "of" := word_by (by decide +kernel)
theorem w_case : WordS "key" "case" := word_by (by decide +kernel)
theorem w_if : WordS "key" "if" := word_by (by decide +kernel)
theorem w_then : WordS "key" "then" := word_by (by decide +kernel)
theorem w_else : WordS "key" "else" := word_by (by decide +kernel)
theorem w_open : WordS "sign" "(" := word_by (by decide +kernel)
theorem w_nil : WordS "sign" "[]" := word_by (by decide +kernel)
theorem w_arrow : WordS "sign" "->" := word_by (by decide +kernel)
theorem w_eq : WordS "sign" "=" := word_by (by decide +kernel)
theorem w_col : WordS "sign" ":" := word_by (by decide +kernel)
theorem w_num {i : Int} (h0 : 0 ≤ i) (h1 : i ≤ 8) : WordS "number" (Str.ofString (toString i)) := by
  have h : i = 0 ∨ i = 1 ∨ i = 2 ∨ i = 3 ∨ i = 4 ∨ i = 5 ∨ i = 6 ∨ i = 7 ∨ i = 8 := by omega
  rcases h with rfl | rfl | rfl | rfl | rfl | rfl | rfl | rfl | rfl <;> exact word_by (by decide +kernel)
theorem num_last {i : Int} (h0 : 0 ≤ i) (h1 : i ≤ 8) {y : Nat} (h : (tl (Str.ofString (toString i))).getLast? = some y) : y ≠ 61 := by
  have h2 : i = 0 ∨ i = 1 ∨ i = 2 ∨ i = 3 ∨ i = 4 ∨ i = 5 ∨ i = 6 ∨ i = 7 ∨ i = 8 := by omega
  have k : ∀ j ∈ ([0, 1, 2, 3, 4, 5, 6, 7, 8] : List Int), (tl (Str.ofString (toString j))).getLast? ≠ some 61 := by decide +kernel
  intro e
  subst e
  exact k i (by simp; omega) h
theorem num_head {i : Int} (h0 : 0 ≤ i) (h1 : i ≤ 8) : (tl (Str.ofString (toString i))).head? ≠ some 61 := by
  have k : ∀ j ∈ ([0, 1, 2, 3, 4, 5, 6, 7, 8] : List Int), (tl (Str.ofString (toString j))).head? ≠ some 61 := by decide +kernel
  exact k i (by simp; omega)
theorem brk_key {w : Str} {S : List Int} : brkS "key" w S = some S := by
  unfold brkS
  rw [if_neg (by decide +kernel)]
theorem brk_num {w : Str} {S : List Int} : brkS "number" w S = some S := by
  unfold brkS
  rw [if_neg (by decide +kernel)]
theorem brk_name {w : Str} {S : List Int} : brkS "name" w S = some S := by
  unfold brkS
  rw [if_neg (by decide +kernel)]
theorem brk_sign {w : Str} {S : List Int} (h1 : w ≠ "(") (h2 : w ≠ ")") : brkS "sign" w S = some S := by
  unfold brkS
  rw [if_pos rfl, if_neg h1, if_neg (fun z => h2 z.1)]
theorem brk_open {S : List Int} (h : S.length ≠ 24) : brkS "sign" "(" S = some (-1 :: S) := by
  unfold brkS
  rw [if_pos rfl, if_pos rfl, if_neg h]
theorem op_name {w : List Nat} : isOp "name" w = false := by
  unfold isOp opener
  rw [decide_eq_false (show ¬ ((("name" : Str)) = ("key" : Str)) by decide +kernel), Bool.false_and]
theorem op_num {w : List Nat} : isOp "number" w = false := by
  unfold isOp opener
  rw [decide_eq_false (show ¬ ((("number" : Str)) = ("key" : Str)) by decide +kernel), Bool.false_and]
theorem op_sign {w : List Nat} : isOp "sign" w = false := by
  unfold isOp opener
  rw [decide_eq_false (show ¬ ((("sign" : Str)) = ("key" : Str)) by decide +kernel), Bool.false_and]
/-- letters alone -/
theorem name_letters {x : Str} (h : NameOk x) : ∀ c ∈ tl x, c ∈ LT := by
  have ht := h.wd.tok
  unfold tok at ht
  split at ht
  · split at ht
    · cases ht
    · injection ht with e
      have e2 : runs LT (tl x) = tl x := congrArg Prod.snd e
      intro c hc
      rw [← e2] at hc
      exact of_decide_eq_true (List.all_eq_true.mp List.all_takeWhile c hc)
  · split at ht
    · split at ht
      · cases ht
      · injection ht with e
        have : ("number" : Str) = "name" := congrArg Prod.fst e
        exact absurd this (by decide +kernel)
    · obtain ⟨s, _, e⟩ := Option.map_eq_some_iff.mp ht
      have : ("sign" : Str) = "name" := congrArg Prod.fst e
      exact absurd this (by decide +kernel)
theorem name_head {x : Str} (h : NameOk x) : (tl x).head? ≠ some 61 := fun e => by
  have := mem_LT.mp (name_letters h 61 (List.mem_of_head? e))
  omega
theorem name_last {x : Str} (h : NameOk x) {y : Nat} (e : (tl x).getLast? = some y) : y ≠ 61 := by
  have := mem_LT.mp (name_letters h y (List.mem_of_getLast? e))
  omega
/-- the op's sign: its kind, and what stands behind it -/
theorem op_word {s : Str} (h : s ∈ opsS) : ∃ k, WordS k s ∧ (∀ S, brkS k s S = some S) ∧ isOp k (tl s) = false := by
  simp only [opsS, List.mem_cons, List.not_mem_nil, or_false] at h
  rcases h with rfl | rfl | rfl | rfl | rfl
  · exact ⟨"sign", word_by (by decide +kernel), fun S => brk_sign (by decide +kernel) (by decide +kernel), op_sign⟩
  · exact ⟨"sign", word_by (by decide +kernel), fun S => brk_sign (by decide +kernel) (by decide +kernel), op_sign⟩
  · exact ⟨"sign", word_by (by decide +kernel), fun S => brk_sign (by decide +kernel) (by decide +kernel), op_sign⟩
  · exact ⟨"sign", word_by (by decide +kernel), fun S => brk_sign (by decide +kernel) (by decide +kernel), op_sign⟩
  · exact ⟨"key", word_by (by decide +kernel), fun S => brk_key, by decide +kernel⟩
/-! ### what a tree costs -/
def cost : Tr → Nat
  | .num _ => 1
  | .nil => 1
  | .use0 _ => 1
  | .use2 _ a b => 5 + cost a + cost b
  | .op _ a b => 5 + cost a + cost b
  | .ife a b c => 10 + cost a + cost b + cost c
  | .lete _ a b => 9 + cost a + cost b
  | .case a b _ _ c => 16 + cost a + cost b + cost c
theorem depth_pos : ∀ t : Tr, 1 ≤ t.depth := by
  intro t
  cases t <;> simp [Tr.depth]
theorem cost_pos : ∀ t : Tr, 1 ≤ cost t := by
  intro t
  cases t <;> simp [cost] <;> omega
end TP
set_option maxRecDepth 100000
set_option maxHeartbeats 4000000
namespace TP
open PySem L2
/-! ### tests of a text in a slot -/
theorem if_eq_no {t u : TS} {D : Ends} {σ : L2.St} {H : Hp} {i : Nat} {k c : Str} (hσ : σ[i]? = some (some (.str k))) (h : k ≠ c) (hu : u D σ H) : tIfS (tTest (tOp rEq (tVar i) (tC (.str c)))) t u D σ H := by
  refine ⟨_, hσ, rfl, _, rfl, ?_⟩
  rw [str_dec, decide_eq_false h]
  exact iteF hu
theorem if_eq_yes {t u : TS} {D : Ends} {σ : L2.St} {H : Hp} {i : Nat} {k c : Str} (hσ : σ[i]? = some (some (.str k))) (h : k = c) (ht : t D σ H) : tIfS (tTest (tOp rEq (tVar i) (tC (.str c)))) t u D σ H := by
  refine ⟨_, hσ, rfl, _, rfl, ?_⟩
  rw [str_dec, decide_eq_true h]
  exact iteT ht
theorem if_in_no {K : PySem.W.Frag} {t u : TS} {D : Ends} {σ : L2.St} {H : Hp} {i : Nat} {k a b : Str} (hσ : σ[i]? = some (some (.str k))) (h1 : k ≠ a) (h2 : k ≠ b) (hu : ∀ H', Same H H' → u D σ H') :
    tIfS (tTest (tOp (rIn K false) (tVar i) (tTup (tCons (tC (.str a)) (tCons (tC (.str b)) tNil))))) t u D σ H := by
  refine ⟨_, hσ, by show 2 ≤ sizeLine; decide, fun p hp => ⟨p, _, rfl, .inr (SqT.of upd_same), rfl, rfl, _, rfl, ?_⟩⟩
  show (if inV (.str k) [.str a, .str b] = true then _ else _)
  rw [inV_pair, decide_eq_false h1, decide_eq_false h2]
  exact iteF (hu _ (Same.new hp _))
theorem if_in_yes {K : PySem.W.Frag} {t u : TS} {D : Ends} {σ : L2.St} {H : Hp} {i : Nat} {k a b : Str} (hσ : σ[i]? = some (some (.str k))) (h : k = a ∨ k = b) (ht : ∀ H', Same H H' → t D σ H') :
    tIfS (tTest (tOp (rIn K false) (tVar i) (tTup (tCons (tC (.str a)) (tCons (tC (.str b)) tNil))))) t u D σ H := by
  refine ⟨_, hσ, by show 2 ≤ sizeLine; decide, fun p hp => ⟨p, _, rfl, .inr (SqT.of upd_same), rfl, rfl, _, rfl, ?_⟩⟩
  show (if inV (.str k) [.str a, .str b] = true then _ else _)
  rw [inV_pair]
  have e : (decide (k = a) || decide (k = b)) = true := by
    rcases h with h | h
    · rw [decide_eq_true h, Bool.true_or]
    · rw [decide_eq_true h, Bool.or_true]
  rw [e]
  exact iteT (ht _ (Same.new hp _))

/-! ### the writer's promises -/
def isBlk : Tr → Bool
  | .lete _ _ _ => true
  | .case _ _ _ _ _ => true
  | _ => false
/-- what stands behind a tree -/
def Done (H : Hp) (d p : Addr) (least : Int) (S : List Int) (n c : Nat) (none_ : Prop) (Q : VK) : Prop :=
  ∀ (z' : Str) (line' col' : Int) (H' : Hp) (ex : List Int) (x' n' : Nat) (q : Addr), WU H' d p z' line' col' (ex ++ S) false x' n' → x' ≠ 61 → (∀ e ∈ ex, least < e) → n ≤ n' → n' ≤ n + c → SameX [d, p] H H' → (none_ → ex = []) → Q (.ref q) H'
def spWrite (m : Nat) : Sp := fun vs H Q _ => ∃ (d p : Addr) (v : V) (t : Tr) (z : Str) (line col least need : Int) (fl fr : Bool) (S : List Int) (x n : Nat), vs = [.ref d, .ref p, v, .int least, .bl fr, .int need] ∧ WS H d p z line col fl least fr S x n ∧
  TrAt H t v ∧ t.Ok ∧ t.depth ≤ m ∧ S.length + 2 * t.depth ≤ 24 ∧ n + cost t + 2 ≤ 400 ∧ Done H d p least S n (cost t + 2) (1 ≤ need) Q
def spSo (m : Nat) : Sp := fun vs H Q _ => ∃ (d p : Addr) (v : V) (t : Tr) (z : Str) (line col least : Int) (fl fr : Bool) (S : List Int) (x n : Nat), vs = [.ref d, .ref p, v, .int least, .bl fr] ∧ WS H d p z line col fl least fr S x n ∧
  TrAt H t v ∧ t.Ok ∧ t.depth ≤ m ∧ S.length + 2 * t.depth ≤ 25 ∧ n + cost t ≤ 400 ∧ Done H d p least S n (cost t) (1 ≤ lvl t) Q
def spWB (m : Nat) : Sp := fun vs H Q _ => ∃ (d p : Addr) (v : V) (t : Tr) (z : Str) (line col least : Int) (fl fr : Bool) (S : List Int) (x n : Nat), vs = [.ref d, .ref p, v, .int least, .bl fr] ∧ WS H d p z line col fl least fr S x n ∧
  TrAt H t v ∧ t.Ok ∧ isBlk t = true ∧ t.depth ≤ m ∧ S.length + 2 * t.depth ≤ 25 ∧ n + cost t ≤ 400 ∧ Done H d p least S n (cost t) False Q
abbrev pW6 : List Str := ["draws", "pen", "tree", "least", "free", "need_d"]
abbrev pW5 : List Str := ["draws", "pen", "tree", "least", "free"]
/-- the small defs that the writer calls -/
structure Small (P : Program) (w : World) (K : PySem.W.Frag) (mg : Str → Option Value) (base : Heap) (fD fWd fIt fBk fLv : Addr) (dD dWd dIt dBk dLv : FuncData) : Prop where
  D : Df K mg "_law_draw" sDraw fD dD ["draws", "many"]
  Wd : Df K mg "_law_word" sWord fWd dWd ["draws", "pen", "word", "least", "free"]
  It : Df K mg "_law_item" sItem fIt dIt ["draws", "pen", "column"]
  Bk : Df K mg "_law_block" sBlock fBk dBk ["draws", "pen", "least"]
  Lv : Df K mg "_law_level" sLevel fLv dLv ["tree"]
  gD : Draw P w K mg base fD dD
  gWd : FnOk P w K mg base CX0 3 fWd dWd ["draws", "pen", "word", "least", "free"] spWord
  gIt : FnOk P w K mg base CX0 3 fIt dIt ["draws", "pen", "column"] spItem
  gBk : FnOk P w K mg base CX0 4 fBk dBk ["draws", "pen", "least"] spBlock
  gLv : FnOk P w K mg base CX0 1 fLv dLv ["tree"] spLevel
theorem nil_go {σ : L2.St} {H : Hp} {Q : List V → Hp → Prop} (h : Q [] H) : tNil σ H Q := h
section
variable {P : Program} {w : World} {K : PySem.W.Frag} {mg : Str → Option Value} {base : Heap}
/-! ### _law_write -/
theorem scWrite : FnScope ["draws", "pen", "tree", "least", "free", "need_d", "found"] pW6 (defScope sWrite) := ⟨rfl, rfl, rfl, by decide +kernel, rfl, by decide +kernel, by decide +kernel⟩
theorem ok_write {m k : Nat} (hk : 4 ≤ k) {f fS fD fWd fIt fBk fLv : Addr} {fd dS dD dWd dIt dBk dLv : FuncData} (F : Fun K "_law_write" "_law_write" sWrite f fd) (T : Small P w K mg base fD fWd fIt fBk fLv dD dWd dIt dBk dLv)
    (DS : Df K mg "_law_write_so" sWSo fS dS pW5) (GS : FnOk P w K mg base CX0 k fS dS pW5 (spSo m)) : FnOk P w K mg base CX0 (k + 1) f fd pW6 (spWrite m) := by
  refine F.ok scWrite (fun vs H Q E h => ?_) (fun cdv A outer s H vs Q E hr h => ?_)
  · obtain ⟨d, p, v, t, z, line, col, least, need, fl, fr, S, x, n, rfl, _⟩ := h
    rfl
  obtain ⟨d, p, v, t, z, line, col, least, need, fl, fr, S, x, n, rfl, u, ht, hok, hm, h24, hn, q⟩ := h
  have hr1 : Room 1 _ := hr.mono (by omega)
  have hr3 : Room 3 _ := hr.mono (by omega)
  have hdp := depth_pos t
  refine ⟨_, C8.pss_cut (ps_if (PW.pt (pw_and (pt_cmpR op_ge (pe_call T.gLv hr1 rfl T.Lv.g T.Lv.F.kp T.Lv.b .nil pass0 (pa_cons (pv 2) pa_nil)) (pv 5) (nomark _)) (pw_and1 (pt_cmpR op_gt (pe_call T.gD hr1 rfl T.D.g T.D.F.kp T.D.b .nil pass0 (pa_cons (pv 0) (pa_cons pe_int pa_nil))) pe_int (nomark _)))))
      (pss_one (ps_ret (pe_call GS hr rfl DS.g DS.F.kp DS.b .nil pass0 (pa_cons (pv 0) (pa_cons (pv 1) (pa_cons (pv 2) (pa_cons (pv 3) (pa_cons (pv 4) pa_nil)))))))) pss_nil)
    (pss_cons (ps_expr (pe_call T.gWd hr3 rfl T.Wd.g T.Wd.F.kp T.Wd.b .nil pass0 (pa_cons (pv 0) (pa_cons (pv 1) (pa_cons pe_str (pa_cons (pv 3) (pa_cons (pv 4) pa_nil)))))))
    (pss_cons (ps_set (i := 6) scWrite.nd rfl (Or.inl rfl) (pe_call GS hr rfl DS.g DS.F.kp DS.b .nil pass0 (pa_cons (pv 0) (pa_cons (pv 1) (pa_cons (pv 2) (pa_cons (pv 3) (pa_cons pe_bl pa_nil)))))))
    (pss_cons (ps_asg (pe_op op_add_str (pe_ix ix_list (pv 1) pe_int (fun _ _ => rfl)) pe_str) (pg_sub (pv 1) pe_int set_list))
    (pss_cons (ps_asg (pe_op op_add (pe_ix ix_list (pv 1) pe_int (fun _ _ => rfl)) pe_int) (pg_sub (pv 1) pe_int set_list))
    (pss_one (ps_ret (pv 6))))))), ?_⟩
  refine ⟨fun (σ : L2.St) (H1 : Hp) => σ = [some (.ref d), some (.ref p), some v, some (.int least), some (.bl fr), some (.int need), none] ∧ SameX [d] H H1 ∧ WS H1 d p z line col fl least fr S x n, ?_, ?_⟩
  · refine ⟨_, rfl, t, v, rfl, ht, hok, fun H1 g1 => ?_⟩
    have u1 := u.grow g1
    refine ⟨_, rfl, _, _, rfl, rfl, _, rfl, ?_⟩
    refine ite2 (fun c => ?_) (fun c => ?_)
    · have c1 : need ≤ lvl t := of_decide_eq_true c
      refine ⟨_, rfl, d, 7, rfl, by decide, by decide, u1.dr, fun r H2 hv0 hv1 g2 hd2 => ?_⟩
      have u2 := u1.step g2 hd2
      have g02 : SameX [d] H H2 := (SameX.of g1).trans g2
      refine ⟨_, _, rfl, rfl, _, rfl, ?_⟩
      refine ite2 (fun c2 => ?_) (fun c2 => ?_)
      · refine ⟨_, rfl, _, rfl, _, rfl, _, rfl, _, rfl, ?_⟩
        refine ⟨d, p, v, t, z, line, col, least, fl, fr, S, x, n, rfl, u2, TrAt.mono (Tups.trans (Same.tups g1) (d_tups u1.dr g2)) t v ht, hok, hm, by omega, by omega, ?_⟩
        intro z' line' col' H' ex x' n' qa hU h61 hex hn1 hn2 g3 h0
        exact q z' line' col' H' ex x' n' qa hU h61 hex hn1 (by omega) ((g02.mono (by simp)).trans g3) (fun h => h0 (by omega))
      · exact ⟨rfl, g02, u2⟩
    · exact iteF ⟨rfl, SameX.of g1, u1⟩
  rintro σ H1 ⟨rfl, g1, u1⟩
  have hb : brkS "sign" "(" S = some (-1 :: S) := brk_open (by omega)
  refine ⟨_, rfl, _, rfl, _, rfl, _, rfl, nil_go (word_go u1 w_open (fun e => absurd e (by decide +kernel)) hb (by omega) fun z2 line2 col2 H2 q2 y hy u2 g2 => ?_)⟩
  rw [op_sign] at u2
  have tp2 : Top (-1 :: S) least true := u1.tp.brk u1.l0
  have ws2 := u2.ws tp2 u1.l0 (by have := u1.l1; omega)
  have tr2 : TrAt H2 t v := TrAt.mono (Tups.trans (d_tups u.dr g1) (dp_tups u1.dr u1.pn g2)) t v ht
  refine ⟨_, rfl, _, rfl, _, rfl, _, rfl, ?_⟩
  refine ⟨d, p, v, t, z2, line2, col2, least, false, true, -1 :: S, y, n + 1, rfl, ws2, tr2, hok, hm, by rw [List.length_cons]; omega, by omega, ?_⟩
  intro z3 line3 col3 H3 ex x3 n3 q3 u3 h61 hex hn1 hn2 g3 _
  have hp3 : H3 p = some (.lst [.str z3, .int line3, .int col3, .bl false]) := u3.pn
  have ndp : d ≠ p := u3.dr.ne u3.pn
  have hz3 := u3.sz.zl
  have hn3 := u3.sz.nle
  have l1 : (")" : Str).length = 1 := by decide +kernel
  refine ⟨_, rfl, p, _, _, _, rfl, rfl, SqL.of hp3, rfl, _, _, rfl, rfl, by rw [l1, sizeLine_eq]; omega, ?_⟩
  refine ⟨_, rfl, p, _, _, 0, rfl, rfl, hp3, rfl, ?_⟩
  have e6 : upd H3 p (.lst [.str (z3 ++ ")"), .int line3, .int col3, .bl false]) p = some (.lst [.str (z3 ++ ")"), .int line3, .int col3, .bl false]) := upd_same
  refine ⟨_, rfl, p, _, _, _, rfl, rfl, SqL.of e6, rfl, _, _, rfl, rfl, ?_⟩
  refine ⟨_, rfl, p, _, _, 2, rfl, rfl, e6, rfl, ?_⟩
  refine ⟨_, rfl, ?_⟩
  have et : tl (z3 ++ (")" : Str)) = tl z3 ++ [41] := by
    show TL.tl _ = _
    rw [TL.tl_append]
    show tl z3 ++ tl (")" : Str) = _
    rw [show tl (")" : Str) = [41] by decide +kernel]
  refine q (z3 ++ (")" : Str)) line3 (col3 + 1) _ [] 41 (n3 + 1) q3 ⟨?_, upd_same, ?_, ⟨by omega, by have := u3.sz.c0; omega, by have := u3.sz.c1; omega, by rw [len_app, l1]; omega⟩⟩ (by decide) (by simp) (by omega) (by omega) ?_ (fun _ => rfl)
  · obtain ⟨a, b, e, h2⟩ := u3.dr
    exact ⟨a, b, by rw [upd_ne ndp, upd_ne ndp]; exact e, h2⟩
  · rw [et, List.nil_append]
    exact u3.pu.close (fun e he => by have := hex e he; have := u1.l0; omega)
  · exact ((((g1.mono (by simp)).trans g2).trans g3).trans (SameX.put (by simp) _)).trans (SameX.put (by simp) _)
end
end TP
set_option maxRecDepth 100000
set_option maxHeartbeats 4000000
namespace TP
open PySem L2

theorem nilc_go {σ : L2.St} {H : Hp} {Q : List V → Hp → Prop} {c : V} (h : Q [c] H) : tCons (tC c) tNil σ H Q := h
theorem lvl_op3 {s : Str} {a b : Tr} (h : s ∈ opsS) : 3 ≤ lvl (.op s a b) := by
  have k : ∀ s ∈ opsS, (3 : Int) ≤ (if s = "==" then 3 else if s = "<" then 3 else if s = ":" then 4 else if s = "+" then 5 else if s = "-" then 5 else 6) := by decide +kernel
  exact k s h
theorem SameX.trail {ex : List Addr} {H0 H' : Hp} {D : Addr} (g : SameX ex H0 H') (hD : H0 D = Option.none) (o : HO) : SameX ex H0 (upd H' D o) := fun b u e n => by
  rw [upd_ne (ne_of_none e hD)]
  exact g b u e n
section
variable {H H1 : Hp} {d p : Addr} {z : Str} {line col least : Int} {fl fr op : Bool} {S : List Int} {x n : Nat}
theorem WU.keepX (u : WU H d p z line col S op x n) {ex : List Addr} (g : SameX ex H H1) (h1 : d ∉ ex) (h2 : p ∉ ex) : WU H1 d p z line col S op x n :=
  ⟨u.dr.keep g h1, u.pn.keep g h2, u.pu, u.sz⟩
theorem write_go {m : Nat} {v : V} {t : Tr} {need : Int} {Q : VK} {E : XK} (u : WS H d p z line col fl least fr S x n) (ht : TrAt H t v) (hok : t.Ok) (hm : t.depth ≤ m) (h24 : S.length + 2 * t.depth ≤ 24) (hn : n + cost t + 2 ≤ 400)
    (h : ∀ (z' : Str) (line' col' : Int) (H' : Hp) (ex : List Int) (x' n' : Nat) (q : Addr), WU H' d p z' line' col' (ex ++ S) false x' n' → x' ≠ 61 → (∀ e ∈ ex, least < e) → n ≤ n' → n' ≤ n + cost t + 2 → SameX [d, p] H H' → (1 ≤ need → ex = []) → Q (.ref q) H') :
    spWrite m [.ref d, .ref p, v, .int least, .bl fr, .int need] H Q E :=
  ⟨d, p, v, t, z, line, col, least, need, fl, fr, S, x, n, rfl, u, ht, hok, hm, h24, hn, fun z' line' col' H' ex x' n' q h1 h2 h3 h4 h5 h6 h7 => h z' line' col' H' ex x' n' q h1 h2 h3 h4 (by omega) h6 h7⟩
theorem write1_go {m : Nat} {v : V} {t : Tr} {need : Int} {Q : VK} {E : XK} (u : WS H d p z line col fl least fr S x n) (ht : TrAt H t v) (hok : t.Ok) (hm : t.depth ≤ m) (h24 : S.length + 2 * t.depth ≤ 24) (hn : n + cost t + 2 ≤ 400) (h1 : 1 ≤ need)
    (h : ∀ (z' : Str) (line' col' : Int) (H' : Hp) (x' n' : Nat) (q : Addr), WU H' d p z' line' col' S false x' n' → x' ≠ 61 → n ≤ n' → n' ≤ n + cost t + 2 → SameX [d, p] H H' → Q (.ref q) H') :
    spWrite m [.ref d, .ref p, v, .int least, .bl fr, .int need] H Q E :=
  write_go u ht hok hm h24 hn fun z' line' col' H' ex x' n' q a1 a2 a3 a4 a5 a6 a7 => by
    have e := a7 h1
    subst e
    exact h z' line' col' H' x' n' q a1 a2 a4 a5 a6
theorem wb_go {m : Nat} {v : V} {t : Tr} {Q : VK} {E : XK} (u : WS H d p z line col fl least fr S x n) (ht : TrAt H t v) (hok : t.Ok) (hb : isBlk t = true) (hm : t.depth ≤ m) (h24 : S.length + 2 * t.depth ≤ 25) (hn : n + cost t ≤ 400)
    (h : ∀ (z' : Str) (line' col' : Int) (H' : Hp) (ex : List Int) (x' n' : Nat) (q : Addr), WU H' d p z' line' col' (ex ++ S) false x' n' → x' ≠ 61 → (∀ e ∈ ex, least < e) → n ≤ n' → n' ≤ n + cost t → SameX [d, p] H H' → Q (.ref q) H') :
    spWB m [.ref d, .ref p, v, .int least, .bl fr] H Q E :=
  ⟨d, p, v, t, z, line, col, least, fl, fr, S, x, n, rfl, u, ht, hok, hb, hm, h24, hn, fun z' line' col' H' ex x' n' q h1 h2 h3 h4 h5 h6 h7 => h z' line' col' H' ex x' n' q h1 h2 h3 h4 h5 h6⟩
end
section
variable {K : PySem.W.Frag} {t r : TS} {D : Ends} {σ : L2.St} {H : Hp} {i : Nat} {k a b c : Str}
theorem sq_in_no (hσ : σ[i]? = some (some (.str k))) (h1 : k ≠ a) (h2 : k ≠ b) (hu : ∀ H', Same H H' → r D σ H') :
    tSeq (tIfS (tTest (tOp (rIn K false) (tVar i) (tTup (tCons (tC (.str a)) (tCons (tC (.str b)) tNil))))) t tNext) r D σ H := if_in_no hσ h1 h2 hu
theorem sq_in_yes (hσ : σ[i]? = some (some (.str k))) (h : k = a ∨ k = b) (ht : ∀ H', Same H H' → t { D with nx := r D } σ H') :
    tSeq (tIfS (tTest (tOp (rIn K false) (tVar i) (tTup (tCons (tC (.str a)) (tCons (tC (.str b)) tNil))))) t tNext) r D σ H := if_in_yes hσ h ht
theorem sq_eq_no (hσ : σ[i]? = some (some (.str k))) (h : k ≠ c) (hu : r D σ H) : tSeq (tIfS (tTest (tOp rEq (tVar i) (tC (.str c)))) t tNext) r D σ H := if_eq_no hσ h hu
theorem sq_eq_yes (hσ : σ[i]? = some (some (.str k))) (h : k = c) (ht : t { D with nx := r D } σ H) : tSeq (tIfS (tTest (tOp rEq (tVar i) (tC (.str c)))) t tNext) r D σ H := if_eq_yes hσ h ht
end
abbrev nSo : List Str := ["draws", "pen", "tree", "least", "free", "word", "place", "args", "level", "left", "right", "test", "yes", "one"]
section
variable {P : Program} {w : World} {K : PySem.W.Frag} {mg : Str → Option Value} {base : Heap}
theorem scSo : FnScope nSo pW5 (defScope sWSo) := ⟨rfl, rfl, rfl, by decide +kernel, rfl, by decide +kernel, by decide +kernel⟩
theorem ok_so {m k kB kW : Nat} (hk : 4 ≤ k) (hkB : kB ≤ k) (hkW : kW ≤ k) (ms : mg "str" = none) (mi : mg "int" = none) (mt : mg "tuple" = none) {f fB fW fD fWd fIt fBk fLv : Addr} {fd dB dW dD dWd dIt dBk dLv : FuncData} (F : Fun K "_law_write_so" "_law_write_so" sWSo f fd) (T : Small P w K mg base fD fWd fIt fBk fLv dD dWd dIt dBk dLv)
    (DB : Df K mg "_law_write_block" sWBlock fB dB pW5) (GB : FnOk P w K mg base CX0 kB fB dB pW5 (spWB m))
    (DW : Df K mg "_law_write" sWrite fW dW pW6) (GW : FnOk P w K mg base CX0 kW fW dW pW6 (spWrite (m - 1))) : FnOk P w K mg base CX0 (k + 1) f fd pW5 (spSo m) := by
  refine F.ok scSo (fun vs H Q E h => ?_) (fun cdv A outer s H vs Q E hr h => ?_)
  · obtain ⟨d, p, v, t, z, line, col, least, fl, fr, S, x, n, rfl, _⟩ := h
    rfl
  obtain ⟨d, p, v, t, z, line, col, least, fl, fr, S, x, n, rfl, u, ht, hok, hm, h24, hn, q⟩ := h
  have hr1 : Room 1 _ := hr.mono (by omega)
  have hr3 : Room 3 _ := hr.mono (by omega)
  have hrB : Room kB _ := hr.mono hkB
  have hrW : Room kW _ := hr.mono hkW
  refine ⟨_, pss_cons (ps_set (i := 5) scSo.nd rfl (Or.inl rfl) (pe_ix ix_tup (pv 2) pe_int (fun _ _ => rfl)))
    (pss_cons (ps_if (pt_cmpR op_in_seq (pv 5) (pe_tup (pa_cons pe_str (pa_cons pe_str pa_nil))) (by rfl))
      (pss_one (ps_ret (pe_call GB hrB rfl DB.g DB.F.kp DB.b .nil pass0 (pa_cons (pv 0) (pa_cons (pv 1) (pa_cons (pv 2) (pa_cons (pv 3) (pa_cons (pv 4) pa_nil)))))))) pss_nil)
    (pss_cons (ps_if (pt_cmpR op_eq (pv 5) pe_str (nomark _))
      (pss_one (ps_ret (pe_tup (pa_cons (pv 5) (pa_cons (pe_call T.gWd hr3 rfl T.Wd.g T.Wd.F.kp T.Wd.b .nil pass0 (pa_cons (pv 0) (pa_cons (pv 1) (pa_cons (pe_callTy call_str_int (by rfl) ms (by decide +kernel) (pa_cons (pe_ix ix_tup (pv 2) pe_int (fun _ _ => rfl)) pa_nil)) (pa_cons (pv 3) (pa_cons (pv 4) pa_nil)))))) (pa_cons (pe_ix ix_tup (pv 2) pe_int (fun _ _ => rfl)) pa_nil)))))) pss_nil)
    (pss_cons (ps_if (pt_cmpR op_eq (pv 5) pe_str (nomark _))
      (pss_one (ps_ret (pe_tup (pa_cons (pv 5) (pa_cons (pe_call T.gWd hr3 rfl T.Wd.g T.Wd.F.kp T.Wd.b .nil pass0 (pa_cons (pv 0) (pa_cons (pv 1) (pa_cons pe_str (pa_cons (pv 3) (pa_cons (pv 4) pa_nil)))))) pa_nil))))) pss_nil)
    (pss_cons (ps_if (pt_cmpR op_eq (pv 5) pe_str (nomark _))
      (pss_cons (ps_set (i := 6) scSo.nd rfl (Or.inl rfl) (pe_call T.gWd hr3 rfl T.Wd.g T.Wd.F.kp T.Wd.b .nil pass0 (pa_cons (pv 0) (pa_cons (pv 1) (pa_cons (pe_ix ix_tup (pv 2) pe_int (fun _ _ => rfl)) (pa_cons (pv 3) (pa_cons (pv 4) pa_nil)))))))
      (pss_cons (ps_setLc (i := 7) (own := [("one", 13)]) (g := gName 13) rfl scSo.nd rfl rfl (sw_true rfl rfl rfl (by decide +kernel)) (pi_tup (pe_ix ix_tup (pv 2) pe_int (fun _ _ => rfl))) (blkOk_by (N := nSo) (sc := defScope sWSo) (by decide +kernel))
          (fun _ _ _ _ _ => pg_name scSo.nd rfl (Or.inl rfl)) (fun _ _ _ _ _ => pts_nil)
          (fun _ _ _ _ _ => pe_call GW hrW rfl DW.g DW.F.kp DW.b .nil pass0 (pa_cons (pv 0) (pa_cons (pv 1) (pa_cons (pv 13) (pa_cons (pv 3) (pa_cons (pv 4) (pa_cons pe_int pa_nil))))))))
      (pss_one (ps_ret (pe_tup (pa_cons (pv 5) (pa_cons (pv 6) (pa_cons (pe_ix ix_tup (pv 2) pe_int (fun _ _ => rfl)) (pa_cons (pe_callTy call_tuple_of (by rfl) mt (by decide +kernel) (pa_cons (pv 7) pa_nil)) pa_nil))))))))) pss_nil)
    (pss_cons (ps_if (pt_cmpR op_eq (pv 5) pe_str (nomark _))
      (pss_cons (ps_set (i := 8) scSo.nd rfl (Or.inl rfl) (pe_call T.gLv hr1 rfl T.Lv.g T.Lv.F.kp T.Lv.b .nil pass0 (pa_cons (pv 2) pa_nil)))
      (pss_cons (ps_set (i := 9) scSo.nd rfl (Or.inl rfl) (pe_call GW hrW rfl DW.g DW.F.kp DW.b .nil pass0 (pa_cons (pv 0) (pa_cons (pv 1) (pa_cons (pe_ix ix_tup (pv 2) pe_int (fun _ _ => rfl)) (pa_cons (pv 3) (pa_cons (pv 4) (pa_cons (pe_op op_add (pv 8) (pe_callTy call_int1 (by rfl) mi (by decide +kernel) (pa_cons (pe_cmpR op_lt (pv 8) pe_int (nomark _)) pa_nil))) pa_nil))))))))
      (pss_cons (ps_set (i := 6) scSo.nd rfl (Or.inl rfl) (pe_call T.gWd hr3 rfl T.Wd.g T.Wd.F.kp T.Wd.b .nil pass0 (pa_cons (pv 0) (pa_cons (pv 1) (pa_cons (pe_ix ix_tup (pv 2) pe_int (fun _ _ => rfl)) (pa_cons (pv 3) (pa_cons (pv 4) pa_nil)))))))
      (pss_cons (ps_set (i := 10) scSo.nd rfl (Or.inl rfl) (pe_call GW hrW rfl DW.g DW.F.kp DW.b .nil pass0 (pa_cons (pv 0) (pa_cons (pv 1) (pa_cons (pe_ix ix_tup (pv 2) pe_int (fun _ _ => rfl)) (pa_cons (pv 3) (pa_cons (pv 4) (pa_cons (pe_op op_add (pv 8) (pe_callTy call_int1 (by rfl) mi (by decide +kernel) (pa_cons (pe_cmpR op_ne (pv 8) pe_int (nomark _)) pa_nil))) pa_nil))))))))
      (pss_one (ps_ret (pe_tup (pa_cons (pv 5) (pa_cons (pv 6) (pa_cons (pe_ix ix_tup (pv 2) pe_int (fun _ _ => rfl)) (pa_cons (pv 9) (pa_cons (pv 10) pa_nil)))))))))))) pss_nil)
    (pss_cons (ps_set (i := 6) scSo.nd rfl (Or.inl rfl) (pe_call T.gWd hr3 rfl T.Wd.g T.Wd.F.kp T.Wd.b .nil pass0 (pa_cons (pv 0) (pa_cons (pv 1) (pa_cons pe_str (pa_cons (pv 3) (pa_cons (pv 4) pa_nil)))))))
    (pss_cons (ps_set (i := 11) scSo.nd rfl (Or.inl rfl) (pe_call GW hrW rfl DW.g DW.F.kp DW.b .nil pass0 (pa_cons (pv 0) (pa_cons (pv 1) (pa_cons (pe_ix ix_tup (pv 2) pe_int (fun _ _ => rfl)) (pa_cons (pv 3) (pa_cons (pv 4) (pa_cons pe_int pa_nil))))))))
    (pss_cons (ps_expr (pe_call T.gWd hr3 rfl T.Wd.g T.Wd.F.kp T.Wd.b .nil pass0 (pa_cons (pv 0) (pa_cons (pv 1) (pa_cons pe_str (pa_cons (pv 3) (pa_cons (pv 4) pa_nil)))))))
    (C8.pss_cut (ps_if (PW.pt (pw_and (pt_cmpR op_in_seq (pe_ix ix_tup (pe_ix ix_tup (pv 2) pe_int (fun _ _ => rfl)) pe_int (fun _ _ => rfl)) (pe_tup (pa_cons pe_str (pa_cons pe_str pa_nil))) (by rfl)) (pw_and1 (pt_cmpR op_eq (pe_call T.gD hr1 rfl T.D.g T.D.F.kp T.D.b .nil pass0 (pa_cons (pv 0) (pa_cons pe_int pa_nil))) pe_int (nomark _)))))
        (pss_cons (ps_set (i := 12) scSo.nd rfl (Or.inl rfl) (pe_call GB hrB rfl DB.g DB.F.kp DB.b .nil pass0 (pa_cons (pv 0) (pa_cons (pv 1) (pa_cons (pe_ix ix_tup (pv 2) pe_int (fun _ _ => rfl)) (pa_cons (pe_op op_add (pv 3) pe_int) (pa_cons (pv 4) pa_nil)))))))
        (pss_one (ps_expr (pe_call T.gIt hr3 rfl T.It.g T.It.F.kp T.It.b .nil pass0 (pa_cons (pv 0) (pa_cons (pv 1) (pa_cons (pe_op op_add (pv 3) pe_int) pa_nil)))))))
        (pss_one (ps_set (i := 12) scSo.nd rfl (Or.inl rfl) (pe_call GW hrW rfl DW.g DW.F.kp DW.b .nil pass0 (pa_cons (pv 0) (pa_cons (pv 1) (pa_cons (pe_ix ix_tup (pv 2) pe_int (fun _ _ => rfl)) (pa_cons (pv 3) (pa_cons (pv 4) (pa_cons pe_int pa_nil))))))))))
    (pss_cons (ps_expr (pe_call T.gWd hr3 rfl T.Wd.g T.Wd.F.kp T.Wd.b .nil pass0 (pa_cons (pv 0) (pa_cons (pv 1) (pa_cons pe_str (pa_cons (pv 3) (pa_cons (pv 4) pa_nil)))))))
    (pss_one (ps_ret (pe_tup (pa_cons (pv 5) (pa_cons (pv 6) (pa_cons (pv 11) (pa_cons (pv 12) (pa_cons (pe_call GW hrW rfl DW.g DW.F.kp DW.b .nil pass0 (pa_cons (pv 0) (pa_cons (pv 1) (pa_cons (pe_ix ix_tup (pv 2) pe_int (fun _ _ => rfl)) (pa_cons (pv 3) (pa_cons (pv 4) (pa_cons pe_int pa_nil))))))) pa_nil)))))))))))))))))), ?_⟩
  have hdp := depth_pos t
  have l1 := u.l1
  have T0 : ∀ {H1 : Hp}, Same H H1 → Tups H H1 := fun g => Same.tups g
  have fin : ∀ {z' : Str} {line' col' : Int} {H' : Hp} {x' n' : Nat} {ex : List Int}, WU H' d p z' line' col' (ex ++ S) false x' n' → x' ≠ 61 → (∀ e ∈ ex, least < e) → n ≤ n' → n' ≤ n + cost t → SameX [d, p] H H' → (1 ≤ lvl t → ex = []) →
      ∀ (xs : List V) (pT : Addr), H' pT = none → Q (.ref pT) (upd H' pT (.tup xs)) := by
    intro z' line' col' H' x' n' ex a1 a2 a3 a4 a5 a6 a7 xs pT hT
    exact q z' line' col' _ ex x' n' pT (a1.grow (Same.new hT _)) a2 a3 a4 a5 (a6.trans (SameX.new hT _)) a7
  cases t with
  | num i =>
    obtain ⟨pp, y, rfl, hp⟩ := ht
    refine ⟨_, rfl, pp, _, _, _, rfl, rfl, SqT.of hp, at0 _ _, ?_⟩
    refine sq_in_no rfl (by decide +kernel) (by decide +kernel) fun H1 g1 => ?_
    refine sq_eq_yes rfl rfl ?_
    have u1 := u.grow g1
    simp only [cost] at hn fin
    refine ⟨_, rfl, _, rfl, _, rfl, _, rfl, pp, _, _, _, rfl, rfl, SqT.of (g1 _ _ hp), rfl, i, rfl, ?_, _, rfl, _, rfl, nil_go (word_go u1 (w_num hok.1 hok.2) (fun e => absurd e (num_head hok.1 hok.2)) brk_num (by omega) fun z2 line2 col2 H2 q2 y2 hy u2 g2 => ?_)⟩
    · have h2 : i = 0 ∨ i = 1 ∨ i = 2 ∨ i = 3 ∨ i = 4 ∨ i = 5 ∨ i = 6 ∨ i = 7 ∨ i = 8 := by have := hok.1; have := hok.2; omega
      rcases h2 with rfl | rfl | rfl | rfl | rfl | rfl | rfl | rfl | rfl <;> decide +kernel
    rw [op_num] at u2
    have hp2 : H2 pp = some (.tup [.str "num", y, .int i]) := dp_tups u1.dr u1.pn g2 _ _ (g1 _ _ hp)
    refine ⟨_, rfl, pp, _, _, _, rfl, rfl, SqT.of hp2, rfl, by show 3 ≤ sizeLine; decide, ?_⟩
    exact fin (ex := []) u2 (num_last hok.1 hok.2 hy) (by simp) (by omega) (by omega) ((SameX.of g1).trans g2) (fun _ => rfl) _
  | nil =>
    obtain ⟨pp, y, rfl, hp⟩ := ht
    refine ⟨_, rfl, pp, _, _, _, rfl, rfl, SqT.of hp, at0 _ _, ?_⟩
    refine sq_in_no rfl (by decide +kernel) (by decide +kernel) fun H1 g1 => ?_
    refine sq_eq_no rfl (by decide +kernel) ?_
    refine sq_eq_yes rfl rfl ?_
    have u1 := u.grow g1
    simp only [cost] at hn fin
    refine ⟨_, rfl, _, rfl, _, rfl, _, rfl, _, rfl, nil_go (word_go u1 w_nil (fun e => absurd e (by decide +kernel)) (brk_sign (by decide +kernel) (by decide +kernel)) (by omega) fun z2 line2 col2 H2 q2 y2 hy u2 g2 => ?_)⟩
    rw [op_sign] at u2
    have h61 : y2 ≠ 61 := by
      have e : (tl ("[]" : Str)).getLast? = some 93 := by decide +kernel
      rw [e] at hy
      injection hy with hy
      omega
    refine ⟨by show 2 ≤ sizeLine; decide, ?_⟩
    exact fin (ex := []) u2 h61 (by simp) (by omega) (by omega) ((SameX.of g1).trans g2) (fun _ => rfl) _
  | use0 x0 =>
    obtain ⟨pp, y, a, rfl, hp, ha⟩ := ht
    refine ⟨_, rfl, pp, _, _, _, rfl, rfl, SqT.of hp, at0 _ _, ?_⟩
    refine sq_in_no rfl (by decide +kernel) (by decide +kernel) fun H1 g1 => ?_
    refine sq_eq_no rfl (by decide +kernel) ?_
    refine sq_eq_no rfl (by decide +kernel) ?_
    refine sq_eq_yes rfl rfl ?_
    have u1 := u.grow g1
    simp only [cost] at hn fin
    refine ⟨_, rfl, _, rfl, _, rfl, pp, _, _, _, rfl, rfl, SqT.of (g1 _ _ hp), rfl, _, rfl, _, rfl, nil_go (word_go u1 hok (fun e => absurd e (name_head hok)) brk_name (by omega) fun z2 line2 col2 H2 q2 y2 hy u2 g2 => ?_)⟩
    rw [op_name] at u2
    have t2 := dp_tups u1.dr u1.pn g2
    refine ⟨_, rfl, pp, _, _, _, rfl, rfl, SqT.of (t2 _ _ (g1 _ _ hp)), rfl, a, rfl, ⟨_, SqT.of (t2 _ _ (g1 _ _ ha))⟩, fun D hD => ?_⟩
    have ndD : d ≠ D := by
      obtain ⟨a1, b1, e1, _⟩ := u2.dr
      exact ne_of_none e1 hD
    have npD : p ≠ D := ne_of_none u2.pn hD
    have naD : a ≠ D := ne_of_none (t2 _ _ (g1 _ _ ha)) hD
    have npp : pp ≠ D := ne_of_none (t2 _ _ (g1 _ _ hp)) hD
    refine lc_tup (xs := []) (fun i H3 => H3 = upd H2 D (.lst [])) rfl (fun i H3 _ e => ?_) (fun i x H3 hx _ => absurd hx (by simp)) fun H3 e => ?_
    · subst e
      exact SqT.of (by rw [upd_ne naD]; exact t2 _ _ (g1 _ _ ha))
    subst e
    refine ⟨_, rfl, _, rfl, _, rfl, pp, _, _, _, rfl, rfl, SqT.of (by rw [upd_ne npp]; exact t2 _ _ (g1 _ _ hp)), rfl, _, rfl, D, _, rfl, .inl ⟨SqL.of upd_same, fun l hl => ⟨by show 4 ≤ sizeLine; decide, ?_⟩⟩⟩
    exact fin (ex := []) ((u2.grow (Same.new hD _)).grow (Same.new hl _)) (name_last hok hy) (by simp) (by omega) (by omega) ((((SameX.of g1).trans g2).trans (SameX.new hD _)).trans (SameX.new hl _)) (fun _ => rfl) _
  | use2 x0 a b =>
    obtain ⟨pp, y, pa, v1, v2, rfl, hp, hpa, h1, h2⟩ := ht
    obtain ⟨hx0, ha, hb⟩ := hok
    simp only [cost] at hn fin
    simp only [Tr.depth] at hm h24
    refine ⟨_, rfl, pp, _, _, _, rfl, rfl, SqT.of hp, at0 _ _, ?_⟩
    refine sq_in_no rfl (by decide +kernel) (by decide +kernel) fun H1 g1 => ?_
    refine sq_eq_no rfl (by decide +kernel) ?_
    refine sq_eq_no rfl (by decide +kernel) ?_
    refine sq_eq_yes rfl rfl ?_
    have u1 := u.grow g1
    refine ⟨_, rfl, _, rfl, _, rfl, pp, _, _, _, rfl, rfl, SqT.of (g1 _ _ hp), rfl, _, rfl, _, rfl, nil_go (word_go u1 hx0 (fun e => absurd e (name_head hx0)) brk_name (by omega) fun z2 line2 col2 H2 q2 y2 hy u2 g2 => ?_)⟩
    rw [op_name] at u2
    have t2 := Tups.trans (Same.tups g1) (dp_tups u1.dr u1.pn g2)
    have g02 : SameX [d, p] H H2 := (SameX.of g1).trans g2
    refine ⟨_, rfl, pp, _, _, _, rfl, rfl, SqT.of (t2 _ _ hp), rfl, pa, rfl, ⟨_, SqT.of (t2 _ _ hpa)⟩, fun D hD => ?_⟩
    have ndD : d ≠ D := by
      obtain ⟨a1, b1, e1, _⟩ := u2.dr
      exact ne_of_none e1 hD
    have npD : p ≠ D := ne_of_none u2.pn hD
    have hD0 : H D = none := g02.none hD (by simp; exact ⟨Ne.symm ndD, Ne.symm npD⟩)
    refine lc_tup (xs := [v1, v2]) (fun i H3 => ∃ (z3 : Str) (line3 col3 : Int) (x3 n3 : Nat) (acc : List V), WU H3 d p z3 line3 col3 S false x3 n3 ∧ x3 ≠ 61 ∧ n + 1 ≤ n3 ∧ (i = 0 → n3 ≤ n + 1) ∧ (i = 1 → n3 ≤ n + 3 + cost a) ∧ (i = 2 → n3 ≤ n + 5 + cost a + cost b) ∧
      H3 D = some (.lst acc) ∧ acc.length = i ∧ Tups H H3 ∧ SameX [d, p] H H3)
      ⟨z2, line2, col2, y2, n + 1, [], u2.grow (Same.new hD _), name_last hx0 hy, by omega, by omega, by omega, by omega, upd_same, rfl, Tups.trans t2 (Same.tups (Same.new hD _)), g02.trail hD0 _⟩ (fun i H3 _ e => ?_) (fun i xv H3 hxv e => ?_) (fun H3 e => ?_)
    · obtain ⟨z3, line3, col3, x3, n3, acc, _, _, _, _, _, _, _, _, t3, _⟩ := e
      exact SqT.of (t3 _ _ hpa)
    · obtain ⟨z3, line3, col3, x3, n3, acc, u3, hx3, m0, m1, m2, m3, hacc, hlen, t3, g3⟩ := e
      have ws3 := u3.ws u.tp u.l0 (by omega)
      -- one more
      have go : ∀ (tr : Tr) (vv : V) (nb : Nat), xv = vv → TrAt H tr vv → tr.Ok → tr.depth ≤ m - 1 → S.length + 2 * tr.depth ≤ 24 → n3 + cost tr + 2 ≤ 400 → (∀ n4, n3 ≤ n4 → n4 ≤ n3 + cost tr + 2 → (i + 1 = 0 → n4 ≤ n + 1) ∧ (i + 1 = 1 → n4 ≤ n + 3 + cost a) ∧ (i + 1 = 2 → n4 ≤ n + 5 + cost a + cost b)) →
          spWrite (m - 1) [.ref d, .ref p, xv, .int least, .bl fr, .int 8] H3 (fun y H4 => ∃ acc, H4 D = some (.lst acc) ∧ acc.length < sizeLine ∧ ∃ (z3 : Str) (line3 col3 : Int) (x3 n3 : Nat) (acc_1 : List V), WU (upd H4 D (.lst (acc ++ [y]))) d p z3 line3 col3 S false x3 n3 ∧ x3 ≠ 61 ∧ n + 1 ≤ n3 ∧ (i + 1 = 0 → n3 ≤ n + 1) ∧ (i + 1 = 1 → n3 ≤ n + 3 + cost a) ∧ (i + 1 = 2 → n3 ≤ n + 5 + cost a + cost b) ∧
            (upd H4 D (.lst (acc ++ [y]))) D = some (.lst acc_1) ∧ acc_1.length = i + 1 ∧ Tups H (upd H4 D (.lst (acc ++ [y]))) ∧ SameX [d, p] H (upd H4 D (.lst (acc ++ [y])))) E0 := by
        intro tr vv nb ev htr hok3 hdep h243 hn3 hb3
        subst ev
        refine write1_go ws3 (TrAt.mono t3 _ _ htr) hok3 hdep h243 hn3 (by decide) fun z4 line4 col4 H4 x4 n4 q4 u4 hx4 n41 n42 g4 => ?_
        obtain ⟨b1, b2, b3⟩ := hb3 n4 n41 n42
        have hacc4 : H4 D = some (.lst acc) := g4 _ _ hacc (by simp; exact ⟨Ne.symm ndD, Ne.symm npD⟩)
        have t4 : Tups H3 H4 := dp_tups u3.dr u3.pn g4
        refine ⟨acc, hacc4, by have h2i : i < 2 := by { by_cases hi : i < 2; exact hi; rw [List.getElem?_eq_none (by simp; omega)] at hxv; cases hxv }
                               rw [hlen, sizeLine_eq]; omega, z4, line4, col4, x4, n4, acc ++ [.ref q4], u4.keepX (ex := [D]) (SameX.put (by simp) _) (by simpa using ndD) (by simpa using npD), hx4, by omega, b1, b2, b3, upd_same, by simp [hlen], ?_, (g3.trans g4).trail hD0 _⟩
        exact Tups.trans (Tups.trans t3 t4) ((SameX.put (ex := [D]) (by simp) _).tups (by
          intro a3 ha3 xs3 e3
          simp only [List.mem_cons, List.not_mem_nil, or_false] at ha3
          subst ha3
          rw [hacc4] at e3
          cases e3))
      refine ⟨rfl, ?_⟩
      dsimp only [tYes]
      rw [if_pos rfl]
      match i, hxv with
      | 0, hxv =>
        injection hxv with hxv
        have m1' := m1 rfl
        exact ⟨_, rfl, _, rfl, _, rfl, _, rfl, _, rfl, go a v1 0 hxv.symm h1 ha (by omega) (by omega) (by omega) fun n4 a1 a2 => ⟨by omega, by omega, by omega⟩⟩
      | 1, hxv =>
        injection hxv with hxv
        have m2' := m2 rfl
        exact ⟨_, rfl, _, rfl, _, rfl, _, rfl, _, rfl, go b v2 0 hxv.symm h2 hb (by omega) (by omega) (by omega) fun n4 a1 a2 => ⟨by omega, by omega, by omega⟩⟩
      | i + 2, hxv => exact absurd hxv (by simp)
    · obtain ⟨z3, line3, col3, x3, n3, acc, u3, hx3, m0, m1, m2, m3, hacc, hlen, t3, g3⟩ := e
      refine ⟨_, rfl, _, rfl, _, rfl, pp, _, _, _, rfl, rfl, SqT.of (t3 _ _ hp), rfl, _, rfl, D, _, rfl, .inl ⟨SqL.of hacc, fun l hl => ⟨by show 4 ≤ sizeLine; decide, ?_⟩⟩⟩
      have m3' := m3 rfl
      exact fin (ex := []) (u3.grow (Same.new hl _)) hx3 (by simp) (by omega) (by omega) (g3.trans (SameX.new hl _)) (fun _ => rfl) _
  | op s a b =>
    obtain ⟨pp, y, v1, v2, rfl, hp, h1, h2⟩ := ht
    have hok0 : Tr.Ok (.op s a b) := hok
    obtain ⟨hs, ha, hb⟩ := hok
    obtain ⟨kd, hw, hbrk, hop⟩ := op_word hs
    have tr0 : TrAt H (.op s a b) (.ref pp) := ⟨pp, y, v1, v2, rfl, hp, h1, h2⟩
    simp only [cost] at hn fin
    simp only [Tr.depth] at hm h24
    have hda := depth_pos a
    have hdb := depth_pos b
    refine ⟨_, rfl, pp, _, _, _, rfl, rfl, SqT.of hp, at0 _ _, ?_⟩
    refine sq_in_no rfl (by decide +kernel) (by decide +kernel) fun H1 g1 => ?_
    refine sq_eq_no rfl (by decide +kernel) ?_
    refine sq_eq_no rfl (by decide +kernel) ?_
    refine sq_eq_no rfl (by decide +kernel) ?_
    refine sq_eq_yes rfl rfl ?_
    have u1 := u.grow g1
    have t1 := Same.tups g1
    refine ⟨_, rfl, _, _, rfl, TrAt.mono t1 _ _ tr0, hok0, fun H2 g2 => ?_⟩
    have u2 := u1.grow g2
    have t2 := Tups.trans t1 (Same.tups g2)
    have hl3 : 3 ≤ lvl (.op s a b) := lvl_op3 hs
    generalize hL : lvl (.op s a b) = L at fin hl3 ⊢
    have tp : Top S least fr := u.tp
    -- the right side, when the sign is written
    refine ⟨_, rfl, _, rfl, _, rfl, pp, _, _, _, rfl, rfl, SqT.of (t2 _ _ hp), rfl, _, rfl, _, rfl, _, rfl, _, rfl, _, _, rfl, rfl, .inr ⟨_, rfl, _, _, rfl, rfl, ?_⟩⟩
    refine nil_go (write1_go u2 (TrAt.mono t2 _ _ h1) ha (by omega) (by omega) (by omega) (by split <;> omega) fun z3 line3 col3 H3 x3 n3 q3 u3 hx3 n31 n32 g3 => ?_)
    have t3 := Tups.trans t2 (dp_tups u2.dr u2.pn g3)
    have ws3 := u3.ws tp u.l0 (by omega)
    refine ⟨_, rfl, _, rfl, _, rfl, pp, _, _, _, rfl, rfl, SqT.of (t3 _ _ hp), rfl, _, rfl, _, rfl, nil_go (word_go ws3 hw (fun _ => hx3) (hbrk _) (by omega) fun z4 line4 col4 H4 q4 y4 hy4 u4 g4 => ?_)⟩
    rw [hop] at u4
    have t4 := Tups.trans t3 (dp_tups u3.dr u3.pn g4)
    have ws4 := u4.ws tp u.l0 (by omega)
    refine ⟨_, rfl, _, rfl, _, rfl, pp, _, _, _, rfl, rfl, SqT.of (t4 _ _ hp), rfl, _, rfl, _, rfl, _, rfl, _, rfl, rfl, .inr ⟨_, rfl, _, _, rfl, rfl, ?_⟩⟩
    refine nil_go (write1_go ws4 (TrAt.mono t4 _ _ h2) hb (by omega) (by omega) (by omega) (by split <;> omega) fun z5 line5 col5 H5 x5 n5 q5 u5 hx5 n51 n52 g5 => ?_)
    have t5 := Tups.trans t4 (dp_tups u4.dr u4.pn g5)
    refine ⟨_, rfl, _, rfl, _, rfl, pp, _, _, _, rfl, rfl, SqT.of (t5 _ _ hp), rfl, _, rfl, _, rfl, by show 5 ≤ sizeLine; decide, ?_⟩
    exact fin (ex := []) u5 hx5 (by simp) (by omega) (by omega) (((((SameX.of g1).trans (SameX.of g2)).trans g3).trans g4).trans g5) (fun _ => rfl) _
  | ife a b c =>
    obtain ⟨pp, y, v1, v2, v3, rfl, hp, h1, h2, h3⟩ := ht
    obtain ⟨ha, hb, hc⟩ := hok
    simp only [cost] at hn fin
    simp only [Tr.depth] at hm h24
    have hdb := depth_pos b
    have hL : ¬ (1 : Int) ≤ lvl (.ife a b c) := by show ¬ (1 : Int) ≤ 0; decide
    refine ⟨_, rfl, pp, _, _, _, rfl, rfl, SqT.of hp, at0 _ _, ?_⟩
    refine sq_in_no rfl (by decide +kernel) (by decide +kernel) fun H1 g1 => ?_
    refine sq_eq_no rfl (by decide +kernel) ?_
    refine sq_eq_no rfl (by decide +kernel) ?_
    refine sq_eq_no rfl (by decide +kernel) ?_
    refine sq_eq_no rfl (by decide +kernel) ?_
    have u1 := u.grow g1
    have tp : Top S least fr := u.tp
    refine ⟨_, rfl, _, rfl, _, rfl, _, rfl, nil_go (word_go u1 w_if (fun e => absurd e (by decide +kernel)) brk_key (by omega) fun z2 line2 col2 H2 q2 y2 hy u2 g2 => ?_)⟩
    rw [show isOp "key" (tl ("if" : Str)) = false by decide +kernel] at u2
    have t2 := Tups.trans (Same.tups g1) (dp_tups u1.dr u1.pn g2)
    have g02 : SameX [d, p] H H2 := (SameX.of g1).trans g2
    refine ⟨_, rfl, _, rfl, _, rfl, pp, _, _, _, rfl, rfl, SqT.of (t2 _ _ hp), rfl, _, rfl, _, rfl, nilc_go (write1_go (u2.ws tp u.l0 (by omega)) (TrAt.mono t2 _ _ h1) ha (by omega) (by omega) (by omega) (by decide) fun z3 line3 col3 H3 x3 n3 q3 u3 hx3 n31 n32 g3 => ?_)⟩
    have t3 := Tups.trans t2 (dp_tups u2.dr u2.pn g3)
    refine ⟨_, rfl, _, rfl, _, rfl, _, rfl, nil_go (word_go (u3.ws tp u.l0 (by omega)) w_then (fun e => absurd e (by decide +kernel)) brk_key (by omega) fun z4 line4 col4 H4 q4 y4 hy4 u4 g4 => ?_)⟩
    rw [show isOp "key" (tl ("then" : Str)) = false by decide +kernel] at u4
    have t4 := Tups.trans t3 (dp_tups u3.dr u3.pn g4)
    have g04 : SameX [d, p] H H4 := (g02.trans g3).trans g4
    -- from the second part on
    refine ⟨fun (σ : L2.St) (H5 : Hp) => ∃ (z5 : Str) (line5 col5 : Int) (fl5 : Bool) (x5 n5 : Nat) (q5 : Addr), σ = [some (.ref d), some (.ref p), some (.ref pp), some (.int least), some (.bl fr), some (.str "if"), some (.ref q2), none, none, none, none, some (.ref q3), some (.ref q5), none] ∧
      WS H5 d p z5 line5 col5 fl5 least fr S x5 n5 ∧ n3 + 1 ≤ n5 ∧ n5 ≤ n3 + 3 + cost b ∧ SameX [d, p] H H5 ∧ Tups H H5, ?_, ?_⟩
    · -- the value of the second part
      have plain : ∀ H5, SameX [d, p] H4 H5 → WU H5 d p z4 line4 col4 S false y4 (n3 + 1) → (tAsg (tCall (spWrite (m - 1)) [] E0 (tCons (tVar 0) (tCons (tVar 1) (tCons (tOp (rIxT K) (tVar 2) (tC (.int 3))) (tCons (tVar 3) (tCons (tVar 4) (tCons (tC (.int 1)) tNil))))))) (gName 12))
          { nx := fun (σ : L2.St) (H5 : Hp) => ∃ (z5 : Str) (line5 col5 : Int) (fl5 : Bool) (x5 n5 : Nat) (q5 : Addr), σ = [some (.ref d), some (.ref p), some (.ref pp), some (.int least), some (.bl fr), some (.str "if"), some (.ref q2), none, none, none, none, some (.ref q3), some (.ref q5), none] ∧
            WS H5 d p z5 line5 col5 fl5 least fr S x5 n5 ∧ n3 + 1 ≤ n5 ∧ n5 ≤ n3 + 3 + cost b ∧ SameX [d, p] H H5 ∧ Tups H H5, rt := Q } [some (.ref d), some (.ref p), some (.ref pp), some (.int least), some (.bl fr), some (.str "if"), some (.ref q2), none, none, none, none, some (.ref q3), none, none] H5 := by
        intro H5 g5 u5
        have t5 := Tups.trans t4 (dp_tups u4.dr u4.pn g5)
        refine ⟨_, rfl, _, rfl, _, rfl, pp, _, _, _, rfl, rfl, SqT.of (t5 _ _ hp), rfl, _, rfl, _, rfl, nilc_go (write1_go (u5.ws tp u.l0 (by omega)) (TrAt.mono t5 _ _ h2) hb (by omega) (by omega) (by omega) (by decide) fun z6 line6 col6 H6 x6 n6 q6 u6 hx6 n61 n62 g6 => ?_)⟩
        exact ⟨z6, line6, col6, false, x6, n6, q6, rfl, u6.ws tp u.l0 (by omega), by omega, by omega, (g04.trans g5).trans g6, Tups.trans t5 (dp_tups u5.dr u5.pn g6)⟩
      -- is it a block?
      have kind : ∃ (pb : Addr) (k : Str) (r : List V), v2 = .ref pb ∧ H pb = some (.tup (.str k :: r)) ∧ ((k = "let" ∨ k = "case") → isBlk b = true) := by
        cases b with
        | num i => obtain ⟨pb, y, e, hb1⟩ := h2; exact ⟨pb, _, _, e, hb1, fun h => absurd h (by decide +kernel)⟩
        | nil => obtain ⟨pb, y, e, hb1⟩ := h2; exact ⟨pb, _, _, e, hb1, fun h => absurd h (by decide +kernel)⟩
        | use0 x => obtain ⟨pb, y, a, e, hb1, _⟩ := h2; exact ⟨pb, _, _, e, hb1, fun h => absurd h (by decide +kernel)⟩
        | use2 x a b => obtain ⟨pb, y, a, v1, v2, e, hb1, _⟩ := h2; exact ⟨pb, _, _, e, hb1, fun h => absurd h (by decide +kernel)⟩
        | op s a b => obtain ⟨pb, y, v1, v2, e, hb1, _⟩ := h2; exact ⟨pb, _, _, e, hb1, fun h => absurd h (by decide +kernel)⟩
        | ife a b c => obtain ⟨pb, y, v1, v2, v3, e, hb1, _⟩ := h2; exact ⟨pb, _, _, e, hb1, fun h => absurd h (by decide +kernel)⟩
        | lete n a b => obtain ⟨pb, y, v1, v2, e, hb1, _⟩ := h2; exact ⟨pb, _, _, e, hb1, fun h => rfl⟩
        | case a b h t c => obtain ⟨pb, y, v1, v2, v3, e, hb1, _⟩ := h2; exact ⟨pb, _, _, e, hb1, fun h => rfl⟩
      obtain ⟨pb, kb, rb, ev2, hpb, hkb⟩ := kind
      refine ⟨_, rfl, pp, _, _, _, rfl, rfl, SqT.of (t4 _ _ hp), rfl, pb, _, _, _, ev2, rfl, SqT.of (t4 _ _ hpb), at0 _ _, by show 2 ≤ sizeLine; decide, fun pT hT => ?_⟩
      have g5 : Same H4 (upd H4 pT (.tup [.str "let", .str "case"])) := Same.new hT _
      refine ⟨pT, _, rfl, .inr (SqT.of upd_same), rfl, rfl, _, rfl, ?_⟩
      show (if inV (.str kb) [.str "let", .str "case"] = true then _ else _)
      rw [inV_pair]
      have u5 := u4.grow g5
      refine ite2 (fun c1 => ?_) (fun c1 => ?_)
      · have hblk : isBlk b = true := hkb (by
          rcases Bool.or_eq_true_iff.mp c1 with e | e
          · exact .inl (of_decide_eq_true e)
          · exact .inr (of_decide_eq_true e))
        refine ⟨_, rfl, d, 2, rfl, by decide, by decide, u5.dr, fun rv H6 hv0 hv1 g6 hd6 => ?_⟩
        have u6 := u5.step g6 hd6
        have g56 : SameX [d, p] H4 H6 := (SameX.of g5).trans (g6.mono (by simp))
        have t6 := Tups.trans t4 (dp_tups u4.dr u4.pn g56)
        refine ⟨rfl, _, rfl, ?_⟩
        refine ite2 (fun c2 => ?_) (fun c2 => ?_)
        · have ws6 : WS H6 d p z4 line4 col4 false (least + 1) fr S y4 (n3 + 1) := u6.ws tp.up (by have := u.l0; omega) (by omega)
          refine ⟨_, rfl, _, rfl, _, rfl, pp, _, _, _, rfl, rfl, SqT.of (t6 _ _ hp), rfl, _, rfl, _, _, rfl, rfl, _, rfl, nil_go (wb_go ws6 (TrAt.mono t6 _ _ h2) hb hblk (by omega) (by omega) (by omega) fun z7 line7 col7 H7 ex x7 n7 q7 u7 hx7 hex n71 n72 g7 => ?_)⟩
          obtain ⟨c0, S0, rfl⟩ : ∃ c0 S0, S = c0 :: S0 := by
            cases S with
            | nil => exact absurd rfl tp.ne
            | cons c0 S0 => exact ⟨_, _, rfl⟩
          have hc0 := tp.le c0 (by simp)
          refine ⟨_, rfl, _, rfl, _, rfl, _, _, rfl, rfl, nil_go (item_go u7 hex (by omega) (by have := u.l0; omega) (by omega) (by omega) fun z8 line8 H8 f8 g8 => ?_)⟩
          exact ⟨z8, line8, least + 1, true, 0, n7 + 1, q7, rfl, f8.ws tp u.l0 (by omega), by omega, by omega, ((g04.trans g56).trans g7).trans g8, Tups.trans (Tups.trans t6 (dp_tups u6.dr u6.pn g7)) (dp_tups u7.dr u7.pn g8)⟩
        · exact plain H6 g56 u6
      · refine iteF ?_
        exact plain _ (SameX.of g5) u5
    rintro σ H5 ⟨z5, line5, col5, fl5, x5, n5, q5, rfl, ws5, n51, n52, g05, t5⟩
    refine ⟨_, rfl, _, rfl, _, rfl, _, rfl, nil_go (word_go ws5 w_else (fun e => absurd e (by decide +kernel)) brk_key (by omega) fun z6 line6 col6 H6 q6 y6 hy6 u6 g6 => ?_)⟩
    rw [show isOp "key" (tl ("else" : Str)) = false by decide +kernel] at u6
    have t6 := Tups.trans t5 (dp_tups ws5.dr ws5.pn g6)
    refine ⟨_, rfl, _, rfl, _, rfl, _, rfl, _, rfl, _, rfl, _, rfl, pp, _, _, _, rfl, rfl, SqT.of (t6 _ _ hp), rfl, _, rfl, _, rfl, nilc_go (write_go (u6.ws tp u.l0 (by omega)) (TrAt.mono t6 _ _ h3) hc (by omega) (by omega) (by omega) fun z7 line7 col7 H7 ex x7 n7 q7 u7 hx7 hex n71 n72 g7 h0 => ?_)⟩
    refine nil_go ⟨by show 5 ≤ sizeLine; decide, ?_⟩
    exact fin (ex := ex) u7 hx7 hex (by omega) (by omega) ((g05.trans g6).trans g7) (fun h => absurd h hL) _
  | lete nm a b =>
    obtain ⟨pp, y, v1, v2, rfl, hp, h1, h2⟩ := ht
    refine ⟨_, rfl, pp, _, _, _, rfl, rfl, SqT.of hp, at0 _ _, ?_⟩
    refine sq_in_yes rfl (.inl rfl) fun H1 g1 => ?_
    refine ⟨_, rfl, _, rfl, _, rfl, _, rfl, _, rfl, nil_go (wb_go (u.grow g1) (TrAt.mono (Same.tups g1) _ _ (show TrAt H (.lete nm a b) (.ref pp) from ⟨pp, y, v1, v2, rfl, hp, h1, h2⟩)) hok rfl hm h24 hn fun z2 line2 col2 H2 ex x2 n2 q2 a1 a2 a3 a4 a5 a6 => ?_)⟩
    exact q z2 line2 col2 H2 ex x2 n2 q2 a1 a2 a3 a4 a5 ((SameX.of g1).trans a6) (fun h => absurd h (by show ¬ (1 : Int) ≤ 0; decide))
  | case a b hh tt c =>
    obtain ⟨pp, y, v1, v2, v3, rfl, hp, h1, h2, h3⟩ := ht
    refine ⟨_, rfl, pp, _, _, _, rfl, rfl, SqT.of hp, at0 _ _, ?_⟩
    refine sq_in_yes rfl (.inr rfl) fun H1 g1 => ?_
    refine ⟨_, rfl, _, rfl, _, rfl, _, rfl, _, rfl, nil_go (wb_go (u.grow g1) (TrAt.mono (Same.tups g1) _ _ (show TrAt H (.case a b hh tt c) (.ref pp) from ⟨pp, y, v1, v2, v3, rfl, hp, h1, h2, h3⟩)) hok rfl hm h24 hn fun z2 line2 col2 H2 ex x2 n2 q2 a1 a2 a3 a4 a5 a6 => ?_)⟩
    exact q z2 line2 col2 H2 ex x2 n2 q2 a1 a2 a3 a4 a5 ((SameX.of g1).trans a6) (fun h => absurd h (by show ¬ (1 : Int) ≤ 0; decide))
end
end TP
set_option maxRecDepth 100000
set_option maxHeartbeats 4000000
namespace TP
open PySem L2
abbrev nWb : List Str := ["draws", "pen", "tree", "least", "free", "place", "what", "column", "empty", "word", "body", "rows", "found", "name", "worth"]
/-- a plain word -/
def Plain (w : Str) : Prop := ∃ k, WordS k w ∧ (tl w).head? ≠ some 61 ∧ (∀ S, brkS k w S = some S) ∧ isOp k (tl w) = false
theorem plain_name {x : Str} (h : NameOk x) : Plain x := ⟨"name", h, name_head h, fun _ => brk_name, op_name⟩
theorem plain_col : Plain ":" := ⟨"sign", w_col, by decide +kernel, fun _ => brk_sign (by decide +kernel) (by decide +kernel), op_sign⟩
theorem plain_arrow : Plain "->" := ⟨"sign", w_arrow, by decide +kernel, fun _ => brk_sign (by decide +kernel) (by decide +kernel), op_sign⟩
theorem plain_nil : Plain "[]" := ⟨"sign", w_nil, by decide +kernel, fun _ => brk_sign (by decide +kernel) (by decide +kernel), op_sign⟩
section
variable {H : Hp} {d p : Addr} {z : Str} {line col least : Int} {fl fr : Bool} {S : List Int} {x n : Nat}
theorem plain_go (u : WS H d p z line col fl least fr S x n) {w : Str} {Q : VK} {E : XK} (hw : Plain w) (hn : n + 1 ≤ 400)
    (h : ∀ (z' : Str) (line' col' : Int) (H' : Hp) (q : Addr) (y : Nat), (tl w).getLast? = some y → WU H' d p z' line' col' S false y (n + 1) → SameX [d, p] H H' → Q (.ref q) H') :
    spWord [.ref d, .ref p, .str w, .int least, .bl fr] H Q E := by
  obtain ⟨k, a1, a2, a3, a4⟩ := hw
  refine word_go u a1 (fun e => absurd e a2) (a3 S) hn fun z' line' col' H' q y hy hu hg => h z' line' col' H' q y hy ?_ hg
  rw [a4] at hu
  exact hu
end
theorem nilcc_go {σ : L2.St} {H : Hp} {Q : List V → Hp → Prop} {c c2 : V} (h : Q [c, c2] H) : tCons (tC c) (tCons (tC c2) tNil) σ H Q := h
section
variable {P : Program} {w : World} {K : PySem.W.Frag} {mg : Str → Option Value} {base : Heap}
theorem scWb : FnScope nWb pW5 (defScope sWBlock) := ⟨rfl, rfl, rfl, by decide +kernel, rfl, by decide +kernel, by decide +kernel⟩
theorem ok_wb {m k kW : Nat} (hk : 4 ≤ k) (hkW : kW ≤ k) (mr : mg "reversed" = none) {f fW fD fWd fIt fBk fLv : Addr} {fd dW dD dWd dIt dBk dLv : FuncData} (F : Fun K "_law_write_block" "_law_write_block" sWBlock f fd) (T : Small P w K mg base fD fWd fIt fBk fLv dD dWd dIt dBk dLv)
    (DW : Df K mg "_law_write" sWrite fW dW pW6) (GW : FnOk P w K mg base CX0 kW fW dW pW6 (spWrite (m - 1))) : FnOk P w K mg base CX0 (k + 1) f fd pW5 (spWB m) := by
  refine F.ok scWb (fun vs H Q E h => ?_) (fun cdv A outer s H vs Q E hr h => ?_)
  · obtain ⟨d, p, v, t, z, line, col, least, fl, fr, S, x, n, rfl, _⟩ := h
    rfl
  obtain ⟨d, p, v, t, z, line, col, least, fl, fr, S, x, n, rfl, u, ht, hok, hblk, hm, h24, hn, q⟩ := h
  have hr1 : Room 1 _ := hr.mono (by omega)
  have hr3 : Room 3 _ := hr.mono (by omega)
  have hr4 : Room 4 _ := hr.mono hk
  have hrW : Room kW _ := hr.mono hkW
  refine ⟨_, (pss_cons (ps_if (pt_cmpR op_eq (pe_ix ix_tup (pv 2) pe_int (fun _ _ => rfl)) pe_str (nomark _)) (pss_cons (ps_set (i := 5) scWb.nd rfl (Or.inl rfl) (pe_call T.gWd hr3 rfl T.Wd.g T.Wd.F.kp T.Wd.b .nil pass0 (pa_cons (pv 0) (pa_cons (pv 1) (pa_cons pe_str (pa_cons (pv 3) (pa_cons (pv 4) pa_nil)))))))
    (pss_cons (ps_set (i := 6) scWb.nd rfl (Or.inl rfl) (pe_call GW hrW rfl DW.g DW.F.kp DW.b .nil pass0 (pa_cons (pv 0) (pa_cons (pv 1) (pa_cons (pe_ix ix_tup (pv 2) pe_int (fun _ _ => rfl)) (pa_cons (pv 3) (pa_cons (pv 4) (pa_cons pe_int pa_nil))))))))
    (pss_cons (ps_expr (pe_call T.gWd hr3 rfl T.Wd.g T.Wd.F.kp T.Wd.b .nil pass0 (pa_cons (pv 0) (pa_cons (pv 1) (pa_cons pe_str (pa_cons (pv 3) (pa_cons (pv 4) pa_nil)))))))
    (pss_cons (ps_set (i := 7) scWb.nd rfl (Or.inl rfl) (pe_call T.gBk hr4 rfl T.Bk.g T.Bk.F.kp T.Bk.b .nil pass0 (pa_cons (pv 0) (pa_cons (pv 1) (pa_cons (pv 3) pa_nil)))))
    (pss_cons (ps_expr (pe_call T.gWd hr3 rfl T.Wd.g T.Wd.F.kp T.Wd.b .nil pass0 (pa_cons (pv 0) (pa_cons (pv 1) (pa_cons pe_str (pa_cons (pv 7) (pa_cons pe_bl pa_nil)))))))
    (pss_cons (ps_expr (pe_call T.gWd hr3 rfl T.Wd.g T.Wd.F.kp T.Wd.b .nil pass0 (pa_cons (pv 0) (pa_cons (pv 1) (pa_cons pe_str (pa_cons (pv 7) (pa_cons pe_bl pa_nil)))))))
    (pss_cons (ps_set (i := 8) scWb.nd rfl (Or.inl rfl) (pe_call GW hrW rfl DW.g DW.F.kp DW.b .nil pass0 (pa_cons (pv 0) (pa_cons (pv 1) (pa_cons (pe_ix ix_tup (pv 2) pe_int (fun _ _ => rfl)) (pa_cons (pv 7) (pa_cons pe_bl (pa_cons pe_int pa_nil))))))))
    (pss_cons (ps_expr (pe_call T.gIt hr3 rfl T.It.g T.It.F.kp T.It.b .nil pass0 (pa_cons (pv 0) (pa_cons (pv 1) (pa_cons (pv 7) pa_nil)))))
    (pss_cons (ps_for PassesOwn.never rfl (pi_list (pe_lst (pa_cons (pe_ix ix_tup (pv 2) pe_int (fun _ _ => rfl)) (pa_cons pe_str (pa_cons (pe_ix ix_tup (pv 2) pe_int (fun _ _ => rfl)) (pa_cons pe_str pa_nil)))))) (pg_name (i := 9) scWb.nd rfl (Or.inl rfl)) (pss_one (ps_expr (pe_call T.gWd hr3 rfl T.Wd.g T.Wd.F.kp T.Wd.b .nil pass0 (pa_cons (pv 0) (pa_cons (pv 1) (pa_cons (pv 9) (pa_cons (pv 7) (pa_cons pe_bl pa_nil)))))))))
    (pss_cons (ps_set (i := 10) scWb.nd rfl (Or.inl rfl) (pe_call GW hrW rfl DW.g DW.F.kp DW.b .nil pass0 (pa_cons (pv 0) (pa_cons (pv 1) (pa_cons (pe_ix ix_tup (pv 2) pe_int (fun _ _ => rfl)) (pa_cons (pv 7) (pa_cons pe_bl (pa_cons pe_int pa_nil))))))))
    (pss_one (ps_ret (pe_tup (pa_cons pe_str (pa_cons (pv 5) (pa_cons (pv 6) (pa_cons (pv 8) (pa_cons (pe_ix ix_tup (pv 2) pe_int (fun _ _ => rfl)) (pa_cons (pe_ix ix_tup (pv 2) pe_int (fun _ _ => rfl)) (pa_cons (pv 10) pa_nil)))))))))))))))))))) pss_nil)
    (pss_cons (ps_expr (pe_call T.gWd hr3 rfl T.Wd.g T.Wd.F.kp T.Wd.b .nil pass0 (pa_cons (pv 0) (pa_cons (pv 1) (pa_cons pe_str (pa_cons (pv 3) (pa_cons (pv 4) pa_nil)))))))
    (pss_cons (ps_set (i := 7) scWb.nd rfl (Or.inl rfl) (pe_call T.gBk hr4 rfl T.Bk.g T.Bk.F.kp T.Bk.b .nil pass0 (pa_cons (pv 0) (pa_cons (pv 1) (pa_cons (pv 3) pa_nil)))))
    (pss_cons (ps_set (i := 11) scWb.nd rfl (Or.inl rfl) (pe_lst pa_nil))
    (pss_cons (ps_while PassesOwn.never (PW.pt (pw_and (pt_cmpR op_eq (pe_ix ix_tup (pv 2) pe_int (fun _ _ => rfl)) pe_str (nomark _)) (pw_and1 (PW.pt (pw_or (pt_cmpR (op_eq_emptyL hr.units0) (pv 11) (pe_lst pa_nil) (nomark _)) (pw_or1 (pt_cmpR op_eq (pe_call T.gD hr1 rfl T.D.g T.D.F.kp T.D.b .nil pass0 (pa_cons (pv 0) (pa_cons pe_int pa_nil))) pe_int (nomark _)))))))) (pss_cons (ps_set (i := 5) scWb.nd rfl (Or.inl rfl) (pe_call T.gWd hr3 rfl T.Wd.g T.Wd.F.kp T.Wd.b .nil pass0 (pa_cons (pv 0) (pa_cons (pv 1) (pa_cons (pe_ix ix_tup (pv 2) pe_int (fun _ _ => rfl)) (pa_cons (pv 7) (pa_cons pe_bl pa_nil)))))))
    (pss_cons (ps_expr (pe_call T.gWd hr3 rfl T.Wd.g T.Wd.F.kp T.Wd.b .nil pass0 (pa_cons (pv 0) (pa_cons (pv 1) (pa_cons pe_str (pa_cons (pv 7) (pa_cons pe_bl pa_nil)))))))
    (pss_cons (ps_expr (pe_bm PySem.F.plainAttrs_list PySem.F.slot_list_append PySem.F.type_list_append mt_append (pv 11) (pa_cons (pe_tup (pa_cons (pv 5) (pa_cons (pe_ix ix_tup (pv 2) pe_int (fun _ _ => rfl)) (pa_cons (pe_call GW hrW rfl DW.g DW.F.kp DW.b .nil pass0 (pa_cons (pv 0) (pa_cons (pv 1) (pa_cons (pe_ix ix_tup (pv 2) pe_int (fun _ _ => rfl)) (pa_cons (pv 7) (pa_cons pe_bl (pa_cons pe_int pa_nil))))))) pa_nil)))) pa_nil)))
    (pss_cons (ps_expr (pe_call T.gIt hr3 rfl T.It.g T.It.F.kp T.It.b .nil pass0 (pa_cons (pv 0) (pa_cons (pv 1) (pa_cons (pv 7) pa_nil)))))
    (pss_one (ps_set (i := 2) scWb.nd rfl (Or.inl rfl) (pe_ix ix_tup (pv 2) pe_int (fun _ _ => rfl)))))))))
    (pss_cons (ps_set (i := 12) scWb.nd rfl (Or.inl rfl) (pe_call GW hrW rfl DW.g DW.F.kp DW.b .nil pass0 (pa_cons (pv 0) (pa_cons (pv 1) (pa_cons (pv 2) (pa_cons (pv 7) (pa_cons pe_bl (pa_cons pe_int pa_nil))))))))
    (pss_cons (ps_for PassesOwn.never rfl (pi_reversed rfl mr (pa_cons (pv 11) pa_nil)) (pg_tup rfl (pgs_cons (pg_name (i := 5) scWb.nd rfl (Or.inl rfl)) (pgs_cons (pg_name (i := 13) scWb.nd rfl (Or.inl rfl)) (pgs_cons (pg_name (i := 14) scWb.nd rfl (Or.inl rfl)) pgs_nil)))) (pss_one (ps_set (i := 12) scWb.nd rfl (Or.inl rfl) (pe_tup (pa_cons pe_str (pa_cons (pv 5) (pa_cons (pv 13) (pa_cons (pv 14) (pa_cons (pv 12) pa_nil)))))))))
    (pss_one (ps_ret (pv 12)))))))))), ?_⟩
  have l0 := u.l0
  have l1 := u.l1
  have tp := u.tp
  have SS : ∀ {ex : List Int} {c : Int}, least < c → (∀ e ∈ ex, c < e) → (ex ++ [c]) ++ S = ex ++ c :: S ∧ ∀ e ∈ ex ++ [c], least < e := by
    intro ex c hc hex
    refine ⟨by simp, fun e he => ?_⟩
    rcases List.mem_append.mp he with h | h
    · have := hex e h; omega
    · have := List.mem_singleton.mp h; omega
  have hS : ∀ e ∈ S, e ≤ least := tp.le
  cases t with
  | num i => cases hblk
  | nil => cases hblk
  | use0 x => cases hblk
  | use2 x a b => cases hblk
  | op s a b => cases hblk
  | ife a b c => cases hblk
  | case a b hh tt e =>
    obtain ⟨pp, y, v1, v2, v3, rfl, hp, h1, h2, h3⟩ := ht
    obtain ⟨hnh, hnt, ha, hb, he⟩ := hok
    simp only [cost] at hn
    simp only [Tr.depth] at hm h24
    have hda := depth_pos a
    refine ⟨_, rfl, pp, _, _, _, rfl, rfl, SqT.of hp, at0 _ _, rfl, _, rfl, ?_⟩
    rw [str_dec, decide_eq_true rfl]
    refine iteT ?_
    refine ⟨_, rfl, _, rfl, _, rfl, _, rfl, nil_go (word_go u w_case (fun e => absurd e (by decide +kernel)) brk_key (by omega) fun z1 line1 col1 H1 q1 y1 hy1 u1 g1 => ?_)⟩
    rw [show isOp "key" (tl ("case" : Str)) = false by decide +kernel] at u1
    have t1 := dp_tups u.dr u.pn g1
    refine ⟨_, rfl, _, rfl, _, rfl, pp, _, _, _, rfl, rfl, SqT.of (t1 _ _ hp), rfl, _, rfl, _, rfl, nilc_go (write1_go (u1.ws tp l0 (by omega)) (TrAt.mono t1 _ _ h1) ha (by omega) (by omega) (by omega) (by decide) fun z2 line2 col2 H2 x2 n2 q2 u2 hx2 n21 n22 g2 => ?_)⟩
    have t2 := Tups.trans t1 (dp_tups u1.dr u1.pn g2)
    refine ⟨_, rfl, _, rfl, _, rfl, _, rfl, nil_go (word_go (u2.ws tp l0 (by omega)) w_of (fun e => absurd e (by decide +kernel)) brk_key (by omega) fun z3 line3 col3 H3 q3 y3 hy3 u3 g3 => ?_)⟩
    rw [show isOp "key" (tl ("of" : Str)) = true by decide +kernel] at u3
    have t3 := Tups.trans t2 (dp_tups u2.dr u2.pn g3)
    refine ⟨_, rfl, _, rfl, _, rfl, nil_go (block_go u3 hS (by omega) l0 (by omega) (by omega) fun z4 line4 c H4 hc f4 g4 => ?_)⟩
    have t4 := Tups.trans t3 (dp_tups u3.dr u3.pn g4)
    have tpc : Top (c :: S) c false := Top.self fun e he => by have := hS e he; omega
    have c0 := f4.sz.c0
    have c1 := f4.sz.c1
    refine ⟨_, rfl, _, rfl, _, rfl, nilc_go (plain_go (f4.ws tpc c0 c1) plain_nil (by omega) fun z5 line5 col5 H5 q5 y5 hy5 u5 g5 => ?_)⟩
    have t5 := Tups.trans t4 (dp_tups f4.dr f4.pn g5)
    refine ⟨_, rfl, _, rfl, _, rfl, nilc_go (plain_go (u5.ws tpc c0 (by omega)) plain_arrow (by omega) fun z6 line6 col6 H6 q6 y6 hy6 u6 g6 => ?_)⟩
    have t6 := Tups.trans t5 (dp_tups u5.dr u5.pn g6)
    have hlc : (c :: S).length = S.length + 1 := rfl
    refine ⟨_, rfl, _, rfl, _, rfl, pp, _, _, _, rfl, rfl, SqT.of (t6 _ _ hp), rfl, _, rfl, nilcc_go (write_go (u6.ws tpc c0 (by omega)) (TrAt.mono t6 _ _ h2) hb (by omega) (by omega) (by omega) fun z7 line7 col7 H7 ex7 x7 n7 q7 u7 hx7 hex7 n71 n72 g7 _ => ?_)⟩
    have t7 := Tups.trans t6 (dp_tups u6.dr u6.pn g7)
    refine ⟨_, rfl, _, rfl, _, rfl, nil_go (item_go u7 hex7 (by omega) c0 (by omega) (by omega) fun z8 line8 H8 f8 g8 => ?_)⟩
    have t8 := Tups.trans t7 (dp_tups u7.dr u7.pn g8)
    have g08 : SameX [d, p] H H8 := ((((((g1.trans g2).trans g3).trans g4).trans g5).trans g6).trans g7).trans g8
    refine ⟨_, rfl, pp, _, _, _, rfl, rfl, SqT.of (t8 _ _ hp), rfl, _, rfl, pp, _, _, _, rfl, rfl, SqT.of (t8 _ _ hp), rfl, by show 4 ≤ sizeLine; decide, fun pL hL => ?_⟩
    have ndL : d ≠ pL := by
      obtain ⟨a1, b1, e1, _⟩ := f8.dr
      exact ne_of_none e1 hL
    have npL : p ≠ pL := ne_of_none f8.pn hL
    have f9 := f8.grow (Same.new hL (.lst [.str hh, .str ":", .str tt, .str "->"]))
    have t9 := Tups.trans t8 (Tups.of_put hL (o := .lst [.str hh, .str ":", .str tt, .str "->"]))
    have hws : ∀ w ∈ ([hh, ":", tt, "->"] : List Str), Plain w := by
      intro w hw
      simp only [List.mem_cons, List.not_mem_nil, or_false] at hw
      rcases hw with rfl | rfl | rfl | rfl
      · exact plain_name hnh
      · exact plain_col
      · exact plain_name hnt
      · exact plain_arrow
    refine ⟨pL, rfl, ⟨_, SqL.of upd_same⟩, for_it (walk_list (K := K) (a := pL) (xs := ([hh, ":", tt, "->"] : List Str).map V.str)) (fun i σ H' => ∃ (z9 : Str) (line9 col9 : Int) (fl9 : Bool) (x9 n9 : Nat) (w9 : Option V), σ = [some (.ref d), some (.ref p), some (.ref pp), some (.int least), some (.bl fr), some (.ref q1), some (.ref q2), some (.int c), some (.ref q7), w9, none, none, none, none, none] ∧
      WS H' d p z9 line9 col9 fl9 c false (c :: S) x9 n9 ∧ n9 = n7 + 1 + i ∧ H' pL = some (.lst (([hh, ":", tt, "->"] : List Str).map V.str)) ∧ SameX [d, p] H8 H' ∧ Tups H H')
      ⟨z8, line8, c, true, 0, n7 + 1, none, rfl, f9.ws tpc c0 (by omega), rfl, upd_same, SameX.new hL _, t9⟩ (fun i σ H' _ e => ?_) ?_ ?_⟩
    · obtain ⟨z9, line9, col9, fl9, x9, n9, w9, _, _, _, h9, _, _⟩ := e
      exact SqL.of h9
    · rintro i xv σ H9 H10 hi ⟨z9, line9, col9, fl9, x9, n9, w9, rfl, ws9, rfl, h9, g9, t9⟩ ⟨rfl, hxv⟩
      have hi : i < 4 := hi
      rw [List.getElem?_map] at hxv
      obtain ⟨wd, hwd, rfl⟩ := Option.map_eq_some_iff.mp hxv
      refine ⟨_, rfl, _, rfl, _, rfl, _, rfl, nilc_go (plain_go ws9 (hws wd (List.mem_of_getElem? hwd)) (by omega) fun z10 line10 col10 H10 q10 y10 hy10 u10 g10 => ?_)⟩
      exact ⟨z10, line10, col10, false, y10, n7 + 1 + i + 1, some (.str wd), rfl, u10.ws tpc c0 (by omega), by omega, g10 _ _ h9 (by simp; exact ⟨Ne.symm ndL, Ne.symm npL⟩), g9.trans g10, Tups.trans t9 (dp_tups ws9.dr ws9.pn g10)⟩
    · rintro σ H9 ⟨z9, line9, col9, fl9, x9, n9, w9, rfl, ws9, rfl, h9, g9, t9⟩
      have h4 : ([hh, ":", tt, "->"] : List Str).length = 4 := rfl
      simp only [List.length_map, h4] at ws9
      refine ⟨_, rfl, _, rfl, _, rfl, pp, _, _, _, rfl, rfl, SqT.of (t9 _ _ hp), rfl, _, rfl, nilcc_go (write_go ws9 (TrAt.mono t9 _ _ h3) he (by omega) (by omega) (by omega) fun z10 line10 col10 H10 ex10 x10 n10 q10 u10 hx10 hex10 n101 n102 g10 _ => ?_)⟩
      have t10 := Tups.trans t9 (dp_tups ws9.dr ws9.pn g10)
      refine ⟨_, rfl, _, rfl, _, rfl, _, rfl, pp, _, _, _, rfl, rfl, SqT.of (t10 _ _ hp), rfl, _, rfl, pp, _, _, _, rfl, rfl, SqT.of (t10 _ _ hp), rfl, _, rfl, by show 7 ≤ sizeLine; decide, fun pT hT => ?_⟩
      obtain ⟨es, hes⟩ := SS hc hex10
      refine q z10 line10 col10 _ (ex10 ++ [c]) x10 n10 pT ?_ hx10 hes (by omega) (by simp only [cost]; omega) (((g08.trans g9).trans g10).trans (SameX.new hT _)) (fun h => h.elim)
      rw [es]
      exact u10.grow (Same.new hT _)
  | lete nm a b =>
    have hok0 := hok
    have ht0 := ht
    obtain ⟨pp, y, v1, v2, rfl, hp, h1, h2⟩ := ht
    refine ⟨_, rfl, pp, _, _, _, rfl, rfl, SqT.of hp, at0 _ _, rfl, _, rfl, ?_⟩
    rw [str_dec, decide_eq_false (by decide +kernel)]
    refine iteF ?_
    have hdt := depth_pos (.lete nm a b)
    have hct : 9 ≤ cost (.lete nm a b) := by simp only [cost]; omega
    refine ⟨_, rfl, _, rfl, _, rfl, _, rfl, nil_go (word_go u w_let (fun e => absurd e (by decide +kernel)) brk_key (by omega) fun z1 line1 col1 H1 q1 y1 hy1 u1 g1 => ?_)⟩
    rw [show isOp "key" (tl ("let" : Str)) = true by decide +kernel] at u1
    have t1 := dp_tups u.dr u.pn g1
    refine ⟨_, rfl, _, rfl, _, rfl, nil_go (block_go u1 hS (by omega) l0 (by omega) (by omega) fun z2 line2 c H2 hc f2 g2 => ?_)⟩
    have t2 := Tups.trans t1 (dp_tups u1.dr u1.pn g2)
    have tpc : Top (c :: S) c false := Top.self fun e he => by have := hS e he; omega
    have c0 := f2.sz.c0
    have c1 := f2.sz.c1
    have g02 : SameX [d, p] H H2 := g1.trans g2
    refine ⟨Nat.zero_le _, fun L hL => ?_⟩
    have ndL : d ≠ L := by
      obtain ⟨a1, b1, e1, _⟩ := f2.dr
      exact ne_of_none e1 hL
    have npL : p ≠ L := ne_of_none f2.pn hL
    have hL0 : H L = none := g02.none hL (by simp; exact ⟨Ne.symm ndL, Ne.symm npL⟩)
    have hlc : (c :: S).length = S.length + 1 := rfl
    -- what stands at the head of each turn
    let J : Nat → L2.St → Hp → Prop := fun k σ H' => ∃ (pl : Option V) (z' : Str) (line' : Int) (n' : Nat) (t' : Tr) (v' : V) (rs : List V), σ = [some (.ref d), some (.ref p), some v', some (.int least), some (.bl fr), pl, none, some (.int c), none, none, none, some (.ref L), none, none, none] ∧
      WF H' d p z' line' c (c :: S) n' ∧ TrAt H' t' v' ∧ t'.Ok ∧ H' L = some (.lst rs) ∧ (∀ r ∈ rs, ∃ (T : Addr) (x1 x2 x3 : V), r = .ref T ∧ H' T = some (.tup [x1, x2, x3])) ∧ SameX [d, p] H H' ∧ t'.depth = k ∧ rs.length ≤ n' ∧ n ≤ n' ∧
      ((rs = [] ∧ t' = .lete nm a b ∧ n' = n + 2) ∨ (rs ≠ [] ∧ t'.depth + 1 ≤ (Tr.lete nm a b).depth ∧ n' + cost t' + 2 ≤ n + cost (.lete nm a b)))
    refine ⟨J, ⟨_, none, z2, line2, n + 1 + 1, .lete nm a b, .ref pp, [], rfl, f2.grow (Same.new hL _), TrAt.mono (Tups.trans t2 (Tups.of_put hL)) _ _ ht0, hok0, upd_same, by simp, g02.trans (SameX.new hL _), rfl, by simp, by omega, .inl ⟨rfl, rfl, rfl⟩⟩, ?_⟩
    rintro m1 σ H3 ⟨pl, z3, line3, n3, t3, v3, rs, rfl, f3, ht3, hok3, hL3, hrs, g3, hd3, hlen, hnn, alt⟩
    have htup3 : ∀ {H' : Hp}, Tups H3 H' → ∀ r ∈ rs, ∃ (T : Addr) (x1 x2 x3 : V), r = .ref T ∧ H' T = some (.tup [x1, x2, x3]) := by
      intro H' k r hr
      obtain ⟨T', x1, x2, x3, e1, e2⟩ := hrs r hr
      exact ⟨T', x1, x2, x3, e1, k _ _ e2⟩
    have d3 : t3.depth ≤ (Tr.lete nm a b).depth := by
      rcases alt with ⟨_, e, _⟩ | ⟨_, e, _⟩
      · rw [e]; exact Nat.le_refl _
      · omega
    have hcc : n3 + cost t3 ≤ n + 2 + cost (.lete nm a b) := by
      rcases alt with ⟨_, e, e2⟩ | ⟨_, _, e⟩
      · rw [e]; omega
      · omega
    -- out of the loop
    have out : rs ≠ [] → ∀ H4, SameX [d] H3 H4 → DrAt H4 d → (tSeq (tAsg (tCall (spWrite (m - 1)) [] E0 (tCons (tVar 0) (tCons (tVar 1) (tCons (tVar 2) (tCons (tVar 7) (tCons (tC (.bl false)) (tCons (tC (.int 0)) tNil))))))) (gName 12))
        (tSeq (tFor (iRev K (tCons (tVar 11) tNil)) (gTup K 3 (gCons (gName 5) (gCons (gName 13) (gCons (gName 14) gNil)))) (tAsg (tTup (tCons (tC (.str "let")) (tCons (tVar 5) (tCons (tVar 13) (tCons (tVar 14) (tCons (tVar 12) tNil)))))) (gName 12))) (tRet (tVar 12))))
        { nx := fun _ H' => Q .non H', rt := Q } [some (.ref d), some (.ref p), some v3, some (.int least), some (.bl fr), pl, none, some (.int c), none, none, none, some (.ref L), none, none, none] H4 := by
      intro hne H4 g4 hd4
      obtain ⟨_, hdep, hco⟩ : rs ≠ [] ∧ t3.depth + 1 ≤ (Tr.lete nm a b).depth ∧ n3 + cost t3 + 2 ≤ n + cost (.lete nm a b) := by
        rcases alt with ⟨e, _, _⟩ | h
        · exact absurd e hne
        · exact h
      have f4 := f3.step g4 hd4
      have t4 := d_tups f3.dr g4
      refine ⟨_, rfl, _, rfl, _, rfl, _, rfl, nilcc_go (write_go (f4.ws tpc c0 f4.sz.c1) (TrAt.mono t4 _ _ ht3) hok3 (by omega) (by omega) (by omega) fun z5 line5 col5 H5 ex5 x5 n5 q5 u5 hx5 hex5 n51 n52 g5 _ => ?_)⟩
      have t5 := Tups.trans t4 (dp_tups f4.dr f4.pn g5)
      have hL5 : H5 L = some (.lst rs) := g5 _ _ (g4 _ _ hL3 (by simpa using Ne.symm ndL)) (by simp; exact ⟨Ne.symm ndL, Ne.symm npL⟩)
      have g05 : SameX [d, p] H H5 := (g3.trans (g4.mono (by simp))).trans g5
      refine ⟨_, rfl, L, rs, rfl, SqL.of hL5, for_it (walk_rev (K := K) (a := L) (xs := rs)) (fun i σ H' => ∃ (w5 w13 w14 : Option V) (q12 : Addr), σ = [some (.ref d), some (.ref p), some v3, some (.int least), some (.bl fr), w5, none, some (.int c), none, none, none, some (.ref L), some (.ref q12), w13, w14] ∧ Same H5 H')
        ⟨pl, none, none, q5, rfl, fun _ _ e => e⟩ (fun i σ H' _ e => ?_) ?_ ?_⟩
      · obtain ⟨w5, w13, w14, q12, _, e⟩ := e
        exact SqL.of (e _ _ hL5)
      · rintro i xv σ H6 H7 hi ⟨w5, w13, w14, q12, rfl, g6⟩ ⟨rfl, hxv⟩
        obtain ⟨T', x1, x2, x3, rfl, e2⟩ := htup3 t5 xv (List.mem_of_getElem? hxv)
        refine ⟨T', _, rfl, SqT.of (g6 _ _ e2), rfl, x1, _, rfl, x2, _, rfl, x3, _, rfl, rfl, _, rfl, _, rfl, _, rfl, _, rfl, by show 5 ≤ sizeLine; decide, fun pT hT => ?_⟩
        exact ⟨some x1, some x2, some x3, pT, rfl, g6.trans (Same.new hT _)⟩
      · rintro σ H6 ⟨w5, w13, w14, q12, rfl, g6⟩
        obtain ⟨es, hes⟩ := SS hc hex5
        refine ⟨_, rfl, q z5 line5 col5 H6 (ex5 ++ [c]) x5 n5 q12 ?_ hx5 hes (by omega) (by omega) (g05.trans (SameX.of g6)) (fun h => h.elim)⟩
        rw [es]
        exact u5.grow g6
    -- the test
    have tst : ∀ Q' : Bool → Hp → Prop, (∀ (pt : Addr) (yt v4 v5 : V) (nt : Str) (ta tb : Tr), t3 = .lete nt ta tb → v3 = .ref pt → H3 pt = some (.tup [.str "let", yt, .str nt, v4, v5]) → TrAt H3 ta v4 → TrAt H3 tb v5 → ∀ H4, SameX [d] H3 H4 → DrAt H4 d → Q' true H4) →
        (rs ≠ [] → ∀ H4, SameX [d] H3 H4 → DrAt H4 d → Q' false H4) →
        (tAnd (tTest (tOp rEq (tOp (rIxT K) (tVar 2) (tC (.int 0))) (tC (.str "let")))) (tOr (tTest (tOp (fun x y H Q => ∃ (a b : Addr) (xs : List V), x = .ref a ∧ y = .ref b ∧ SqL K H a xs ∧ SqL K H b [] ∧ Q (.bl xs.isEmpty) H) (tVar 11) (tLst tNil))) (tTest (tOp rEq (tCall spDraw [] E0 (tCons (tVar 0) (tCons (tC (.int 2)) tNil))) (tC (.int 0))))))
          [some (.ref d), some (.ref p), some v3, some (.int least), some (.bl fr), pl, none, some (.int c), none, none, none, some (.ref L), none, none, none] H3 Q' := by
      intro Q' hyes hno
      have kind : ∃ (pb : Addr) (k : Str) (r : List V), v3 = .ref pb ∧ H3 pb = some (.tup (.str k :: r)) ∧ (k = "let" → ∃ (yt v4 v5 : V) (nt : Str) (ta tb : Tr), t3 = .lete nt ta tb ∧ r = [yt, .str nt, v4, v5] ∧ TrAt H3 ta v4 ∧ TrAt H3 tb v5) ∧ (t3 = .lete nm a b → k = "let") := by
        cases t3 with
        | num i => obtain ⟨pb, y, e, hb1⟩ := ht3; exact ⟨pb, _, _, e, hb1, fun h => absurd h (by decide +kernel), fun h => by cases h⟩
        | nil => obtain ⟨pb, y, e, hb1⟩ := ht3; exact ⟨pb, _, _, e, hb1, fun h => absurd h (by decide +kernel), fun h => by cases h⟩
        | use0 x => obtain ⟨pb, y, a, e, hb1, _⟩ := ht3; exact ⟨pb, _, _, e, hb1, fun h => absurd h (by decide +kernel), fun h => by cases h⟩
        | use2 x a b => obtain ⟨pb, y, a, v1, v2, e, hb1, _⟩ := ht3; exact ⟨pb, _, _, e, hb1, fun h => absurd h (by decide +kernel), fun h => by cases h⟩
        | op s a b => obtain ⟨pb, y, v1, v2, e, hb1, _⟩ := ht3; exact ⟨pb, _, _, e, hb1, fun h => absurd h (by decide +kernel), fun h => by cases h⟩
        | ife a b c => obtain ⟨pb, y, v1, v2, v3, e, hb1, _⟩ := ht3; exact ⟨pb, _, _, e, hb1, fun h => absurd h (by decide +kernel), fun h => by cases h⟩
        | lete n a b => obtain ⟨pb, y, v1, v2, e, hb1, e1, e2⟩ := ht3; exact ⟨pb, _, _, e, hb1, fun h => ⟨y, v1, v2, n, a, b, rfl, rfl, e1, e2⟩, fun _ => rfl⟩
        | case a b h t c => obtain ⟨pb, y, v1, v2, v3, e, hb1, _⟩ := ht3; exact ⟨pb, _, _, e, hb1, fun h => absurd h (by decide +kernel), fun h => by cases h⟩
      obtain ⟨pb, kb, rb, rfl, hpb, hkb, hkb2⟩ := kind
      refine ⟨_, rfl, pb, _, _, _, rfl, rfl, SqT.of hpb, at0 _ _, rfl, _, rfl, ?_⟩
      rw [str_dec]
      refine ite2 (fun e1 => ?_) (fun e1 => ?_)
      · have e1 : kb = "let" := of_decide_eq_true e1
        obtain ⟨yt, v4, v5, nt, ta, tb, et, rfl, ha4, hb5⟩ := hkb e1
        subst e1
        refine ⟨_, rfl, Nat.zero_le _, fun pE hE => ?_⟩
        have gE : Same H3 (upd H3 pE (.lst [])) := Same.new hE _
        refine ⟨L, pE, rs, rfl, rfl, SqL.of (gE _ _ hL3), SqL.of upd_same, _, rfl, ?_⟩
        have fE := f3.grow gE
        have yes := hyes pb yt v4 v5 nt ta tb et rfl hpb ha4 hb5
        cases rs with
        | nil => exact iteT (yes _ (SameX.of gE) fE.dr)
        | cons r0 rr =>
          refine iteF ?_
          refine ⟨_, rfl, d, 2, rfl, by decide, by decide, fE.dr, fun rv H5 _ _ g5 hd5 => ⟨rfl, _, rfl, ?_⟩⟩
          rw [dec_int]
          cases (rv == 0) with
          | true => exact yes _ ((SameX.of gE).trans g5) hd5
          | false => exact hno (by simp) _ ((SameX.of gE).trans g5) hd5
      · refine hno ?_ H3 (SameX.refl _ _) f3.dr
        rcases alt with ⟨_, e, _⟩ | ⟨e, _⟩
        · exact absurd (by rw [hkb2 e]; rfl) e1
        · exact e
    refine tst _ (fun pt yt v4 v5 nt ta tb et ev hpt ha4 hb5 H4 g4 hd4 => ?_) (fun hne H4 g4 hd4 => ?_)
    · refine iteT ?_
      subst et ev
      obtain ⟨hnt, hoa, hob⟩ := hok3
      have f4 := f3.step g4 hd4
      have t4 := d_tups f3.dr g4
      have hct3 : cost (.lete nt ta tb) = 9 + cost ta + cost tb := rfl
      have hdt3 : (Tr.lete nt ta tb).depth = max ta.depth tb.depth + 1 := rfl
      have hda := depth_pos ta
      have hdd : max ta.depth tb.depth + 1 ≤ (Tr.lete nm a b).depth := d3
      have hm1 : m1 = max ta.depth tb.depth + 1 := hd3.symm
      refine ⟨J (tb.depth), fun σ' H' j => ⟨tb.depth, by omega, j⟩, ?_⟩
      have hL4 : H4 L = some (.lst rs) := g4 _ _ hL3 (by simpa using Ne.symm ndL)
      refine ⟨_, rfl, _, rfl, _, rfl, pt, _, _, _, rfl, rfl, SqT.of (t4 _ _ hpt), rfl, _, rfl, nilc_go (plain_go (f4.ws tpc c0 f4.sz.c1) (plain_name hnt) (by omega) fun z5 line5 col5 H5 q5 y5 hy5 u5 g5 => ?_)⟩
      have t5 := Tups.trans t4 (dp_tups f4.dr f4.pn g5)
      have h61 : y5 ≠ 61 := name_last hnt hy5
      have c3 := f3.sz.c1
      refine ⟨_, rfl, _, rfl, _, rfl, nilc_go (word_go (u5.ws tpc c0 (by omega)) w_eq (fun _ => h61) (brk_sign (by decide +kernel) (by decide +kernel)) (by omega) fun z6 line6 col6 H6 q6 y6 hy6 u6 g6 => ?_)⟩
      rw [op_sign] at u6
      have t6 := Tups.trans t5 (dp_tups u5.dr u5.pn g6)
      have nL : L ∉ [d, p] := by simp; exact ⟨Ne.symm ndL, Ne.symm npL⟩
      have hL6 : H6 L = some (.lst rs) := g6 _ _ (g5 _ _ hL4 nL) nL
      refine ⟨_, rfl, .inl ⟨rfl, _, SqL.of hL6⟩, _, rfl, _, rfl, pt, _, _, _, rfl, rfl, SqT.of (t6 _ _ hpt), rfl, _, rfl, _, rfl, _, rfl, pt, _, _, _, rfl, rfl, SqT.of (t6 _ _ hpt), rfl, _, rfl, nilcc_go (write_go (u6.ws tpc c0 (by omega)) (TrAt.mono t6 _ _ ha4) hoa (by omega) (by omega) (by omega) fun z7 line7 col7 H7 ex7 x7 n7 q7 u7 hx7 hex7 n71 n72 g7 _ => ?_)⟩
      have t7 := Tups.trans t6 (dp_tups u6.dr u6.pn g7)
      have hL7 : H7 L = some (.lst rs) := g7 _ _ hL6 nL
      have g47 : SameX [d, p] H4 H7 := (g5.trans g6).trans g7
      refine ⟨by show 3 ≤ sizeLine; decide, fun pT hT => ?_⟩
      have nLT : L ≠ pT := ne_of_none hL7 hT
      have u8 := u7.grow (Same.new hT (.tup [.ref q5, .str nt, .ref q7]))
      have t8 := Tups.trans t7 (Tups.of_put hT (o := .tup [.ref q5, .str nt, .ref q7]))
      have hz7 := u7.sz.nle
      refine ⟨L, rs, _, rfl, rfl, by rw [upd_ne nLT]; exact hL7, by rw [sizeLine_eq]; omega, ?_⟩
      have u9 : WU (upd (upd H7 pT (.tup [.ref q5, .str nt, .ref q7])) L (.lst (rs ++ [.ref pT]))) d p z7 line7 col7 (ex7 ++ c :: S) false x7 n7 := u8.keepX (ex := [L]) (SameX.put (by simp) _) (by simpa using ndL) (by simpa using npL)
      have t9 : Tups H3 (upd (upd H7 pT (.tup [.ref q5, .str nt, .ref q7])) L (.lst (rs ++ [.ref pT]))) := Tups.trans t8 ((SameX.put (ex := [L]) (by simp) _).tups (by
        intro a3 ha3 xs3 e3
        simp only [List.mem_cons, List.not_mem_nil, or_false] at ha3
        subst ha3
        rw [upd_ne nLT, hL7] at e3
        cases e3))
      refine ⟨_, rfl, _, rfl, _, rfl, nil_go (item_go u9 hex7 (by omega) c0 (by omega) (by omega) fun z10 line10 H10 f10 g10 => ?_)⟩
      have t10 := Tups.trans t9 (dp_tups u9.dr u9.pn g10)
      refine ⟨_, rfl, pt, _, _, _, rfl, rfl, SqT.of (t10 _ _ hpt), rfl, ?_⟩
      have hL10 : H10 L = some (.lst (rs ++ [.ref pT])) := g10 _ _ upd_same nL
      refine ⟨some (.ref q5), z10, line10, n7 + 1, tb, v5, rs ++ [.ref pT], rfl, f10, TrAt.mono t10 _ _ hb5, hob, hL10, fun r hr => ?_, ?_, rfl, by simp; omega, by omega, .inr ⟨by simp, by omega, ?_⟩⟩
      · rcases List.mem_append.mp hr with hr | hr
        · exact htup3 t10 r hr
        · have e := List.mem_singleton.mp hr
          subst e
          exact ⟨pT, .ref q5, .str nt, .ref q7, rfl, dp_tups u9.dr u9.pn g10 _ _ (by rw [upd_ne (Ne.symm nLT), upd_same])⟩
      · have gA : SameX [d, p] H (upd H7 pT (.tup [.ref q5, .str nt, .ref q7])) := ((g3.trans (g4.mono (by simp))).trans g47).trans (SameX.new hT _)
        exact (gA.trail hL0 _).trans g10
      · rcases alt with ⟨_, e, e2⟩ | ⟨_, _, e⟩
        · rw [← e]; omega
        · omega
    · exact iteF (out hne H4 g4 hd4)
end
end TP
set_option maxRecDepth 100000
set_option maxHeartbeats 4000000
namespace TP
open PySem L2
section
variable {P : Program} {w : World} {K : PySem.W.Frag} {mg : Str → Option Value} {base : Heap}
theorem write_zero {k : Nat} {f : Addr} {fd : FuncData} (F : Fun K "_law_write" "_law_write" sWrite f fd) : FnOk P w K mg base CX0 (k + 1) f fd pW6 (spWrite 0) := by
  refine F.ok scWrite (fun vs H Q E h => ?_) (fun cdv A outer s H vs Q E hr h => ?_)
  · obtain ⟨d, p, v, t, z, line, col, least, need, fl, fr, S, x, n, rfl, _⟩ := h
    rfl
  obtain ⟨d, p, v, t, z, line, col, least, need, fl, fr, S, x, n, rfl, u, ht, hok, hm, _⟩ := h
  have := depth_pos t
  omega
theorem writers {fW fB fS fD fWd fIt fBk fLv : Addr} {dW dB dS dD dWd dIt dBk dLv : FuncData} (T : Small P w K mg base fD fWd fIt fBk fLv dD dWd dIt dBk dLv) (ms : mg "str" = none) (mi : mg "int" = none) (mt : mg "tuple" = none) (mr : mg "reversed" = none)
    (DB : Df K mg "_law_write_block" sWBlock fB dB pW5) (DS : Df K mg "_law_write_so" sWSo fS dS pW5) (DW : Df K mg "_law_write" sWrite fW dW pW6) :
    ∀ m : Nat, FnOk P w K mg base CX0 (4 + 3 * m) fW dW pW6 (spWrite m)
  | 0 => write_zero (k := 3) DW.F
  | m + 1 => by
    have GW := writers T ms mi mt mr DB DS DW m
    have GB : FnOk P w K mg base CX0 (4 + 3 * m + 1) fB dB pW5 (spWB (m + 1)) := ok_wb (m := m + 1) (kW := 4 + 3 * m) (by omega) (Nat.le_refl _) mr DB.F T DW GW
    have GS : FnOk P w K mg base CX0 (4 + 3 * m + 1 + 1) fS dS pW5 (spSo (m + 1)) := ok_so (m := m + 1) (kB := 4 + 3 * m + 1) (kW := 4 + 3 * m) (by omega) (Nat.le_refl _) (by omega) ms mi mt DS.F T DB GB DW GW
    exact ok_write (k := 4 + 3 * m + 1 + 1) (by omega) DW.F T DS GS
end
end TP
set_option maxRecDepth 100000
set_option maxHeartbeats 4000000
namespace TP
open PySem L2
/-! ### the names -/
theorem let_at {v : Int} (h0 : 0 ≤ v) (h1 : v < 26) : ∃ c ∈ LT, atI (letS).cps.toList v = some c := by
  have e : (letS).cps.toList = LT := letS_tl
  have hl : LT.length = 26 := by decide
  have hv : v.toNat < LT.length := by omega
  refine ⟨LT[v.toNat], List.getElem_mem hv, ?_⟩
  rw [e]
  exact atI_get h0 (by simp [hv])
theorem joinL_ones : ∀ ys : List (List Nat), (∀ y ∈ ys, ∃ c ∈ LT, y = [c]) → (TL.joinL [] ys).length = ys.length ∧ ∀ c ∈ TL.joinL [] ys, c ∈ LT
  | [], _ => ⟨rfl, by intro c h; cases h⟩
  | [y], h => by
    obtain ⟨c, hc, rfl⟩ := h y (by simp)
    exact ⟨rfl, by intro x hx; have : x = c := by simpa [TL.joinL] using hx
                   rw [this]; exact hc⟩
  | y :: y2 :: r, h => by
    obtain ⟨c, hc, rfl⟩ := h y (by simp)
    obtain ⟨e1, e2⟩ := joinL_ones (y2 :: r) (fun x hx => h x (List.mem_cons_of_mem _ hx))
    constructor
    · show ([c] ++ ([] ++ TL.joinL [] (y2 :: r))).length = _
      simp only [List.length_append, List.length_cons, List.length_nil] at e1 ⊢
      omega
    · intro x hx
      have hx : x ∈ [c] ++ ([] ++ TL.joinL [] (y2 :: r)) := hx
      rcases List.mem_append.mp hx with h1 | h1
      · rw [List.mem_singleton.mp h1]; exact hc
      · exact e2 x (by simpa using h1)
theorem join_ones {acc : List Str} (h : ∀ x ∈ acc, ∃ c ∈ LT, x = ⟨#[c]⟩) : (Txt.join ("" : Str) acc).length = acc.length ∧ ∀ c ∈ tl (Txt.join ("" : Str) acc), c ∈ LT := by
  have e : tl (Txt.join ("" : Str) acc) = TL.joinL [] (acc.map tl) := by
    have h1 := SX.join_S [] (acc.map tl)
    have h2 : (acc.map tl).map SX.S = acc := by
      rw [List.map_map]
      conv => rhs; rw [← List.map_id acc]
      exact List.map_congr_left fun x _ => SX.S_tl x
    rw [h2] at h1
    have h3 : (SX.S [] : Str) = "" := by decide +kernel
    rw [h3] at h1
    rw [h1]
  obtain ⟨e1, e2⟩ := joinL_ones (acc.map tl) (by
    intro y hy
    obtain ⟨x, hx, rfl⟩ := List.mem_map.mp hy
    obtain ⟨c, hc, rfl⟩ := h x hx
    exact ⟨c, hc, rfl⟩)
  constructor
  · have := TL.len_tl (Txt.join ("" : Str) acc)
    rw [this]
    show (tl _).length = _
    rw [e, e1, List.length_map]
  · rw [e]
    exact e2
theorem runs_all {S : List Nat} : ∀ {w : List Nat}, (∀ c ∈ w, c ∈ S) → runs S w = w := by
  intro w h
  unfold runs
  induction w with
  | nil => rfl
  | cons a w ih =>
    have e := ih fun c hc => h c (List.mem_cons_of_mem _ hc)
    have ha : a ∈ S := h a (by simp)
    simp only [List.takeWhile_cons, ha, decide_true, e]
    simp
theorem name_ok {x : Str} (h0 : tl x ≠ []) (h1 : ∀ c ∈ tl x, c ∈ LT) (h2 : x.length ≤ 8) (h3 : x ∉ keysS) : NameOk x := by
  have hr := runs_all h1
  have hl : (tl x).length ≤ 8 := by have := TL.len_tl x; show (TL.tl x).length ≤ 8; omega
  have hm : mkS (tl x) = x := TL.mk_tl x
  refine ⟨⟨?_, ?_, ?_, ?_, h0⟩, h2⟩
  · unfold tok
    rw [hr, if_pos h0, if_neg (by omega), hm, if_neg h3]
  · intro e; have := mem_LT.mp (h1 _ e); omega
  · intro e; have := mem_LT.mp (h1 _ e); omega
  · intro e; have := mem_LT.mp (h1 _ e); omega
/-- a key with q is no key -/
theorem key_q : ∀ k ∈ keysS, (k ++ ("q" : Str)) ∉ keysS ∧ (k ++ ("q" : Str)).length ≤ 8 := by decide +kernel
def spNames : Sp := fun vs H Q _ => ∃ (d : Addr) (n : Nat), vs = [.ref d, .int (n : Nat)] ∧ n ≤ 50 ∧ DrAt H d ∧ ∀ (p : Addr) (xs : List Str) (H' : Hp), xs.length = n → (∀ x ∈ xs, NameOk x) → SameX [d] H H' → H p = none → H' p = some (.lst (xs.map V.str)) → DrAt H' d → Q (.ref p) H'
abbrev nNames : List Str := ["draws", "many", "letters", "stem", "first", "step", "more", "names", "k", "name"]
section
variable {P : Program} {w : World} {K : PySem.W.Frag} {mg : Str → Option Value} {base : Heap}
theorem scNames : FnScope nNames ["draws", "many"] (defScope sNames) := ⟨rfl, rfl, rfl, by decide +kernel, rfl, by decide +kernel, by decide +kernel⟩
theorem ok_names {f fD fK : Addr} {fd fdD fdK : FuncData} (F : Fun K "_law_names" "_law_names" sNames f fd) (DD : Df K mg "_law_draw" sDraw fD fdD ["draws", "many"]) (DK : Df K mg "_law_keys" sKeys fK fdK []) (mr : mg "range" = none) (mi : mg "int" = none) :
    FnOk P w K mg base CX0 2 f fd ["draws", "many"] spNames := by
  have GD : Draw P w K mg base fD fdD := ok_draw DD.F
  have GK : FnOk P w K mg base CX0 1 fK fdK [] spKeys := ok_keys DK.F
  refine F.ok scNames (fun vs H Q E h => ?_) (fun cdv A outer s H vs Q E hr h => ?_)
  · obtain ⟨d, n, rfl, _⟩ := h
    rfl
  obtain ⟨d, n, rfl, hn, hd, q⟩ := h
  refine ⟨_, (pss_cons (ps_set (i := 2) scNames.nd rfl (Or.inr rfl) pe_str)
    (pss_cons (ps_set (i := 3) scNames.nd rfl (Or.inl rfl) (pe_join pe_str (pe_lc (own := [("k", 8)]) (g := gName 8) rfl scNames.nd (pi_range1 rfl mr (pa_cons (pe_ix ix_list (pe_lst (pa_cons pe_int (pa_cons pe_int (pa_cons pe_int (pa_cons pe_int pa_nil))))) (pe_call GD hr rfl DD.g DD.F.kp DD.b .nil pass0 (pa_cons (pv 0) (pa_cons pe_int pa_nil))) (fun _ _ => rfl)) pa_nil)) (blkOk_by (N := nNames) (sc := defScope sNames) (by decide +kernel)) (fun _ _ _ _ _ => pg_name scNames.nd rfl (Or.inl rfl)) (fun _ _ _ _ _ => pts_nil) (fun _ _ _ _ _ => (pe_ix ix_str (pv 2) (pe_call GD hr rfl DD.g DD.F.kp DD.b .nil pass0 (pa_cons (pv 0) (pa_cons pe_int pa_nil))) (fun _ _ => rfl))))))
    (pss_cons (ps_set (i := 4) scNames.nd rfl (Or.inl rfl) (pe_call GD hr rfl DD.g DD.F.kp DD.b .nil pass0 (pa_cons (pv 0) (pa_cons pe_int pa_nil))))
    (pss_cons (ps_set (i := 5) scNames.nd rfl (Or.inl rfl) (pe_ix ix_list (pe_lst (pa_cons pe_int (pa_cons pe_int (pa_cons pe_int (pa_cons pe_int (pa_cons pe_int (pa_cons pe_int pa_nil))))))) (pe_call GD hr rfl DD.g DD.F.kp DD.b .nil pass0 (pa_cons (pv 0) (pa_cons pe_int pa_nil))) (fun _ _ => rfl)))
    (pss_cons (ps_set (i := 6) scNames.nd rfl (Or.inl rfl) (pe_ix ix_list (pe_lst (pa_cons pe_str (pa_cons pe_str (pa_cons (pe_ix ix_str (pv 2) (pv 4) (fun _ _ => rfl)) pa_nil)))) (pe_call GD hr rfl DD.g DD.F.kp DD.b .nil pass0 (pa_cons (pv 0) (pa_cons pe_int pa_nil))) (fun _ _ => rfl)))
    (pss_cons (ps_set (i := 7) scNames.nd rfl (Or.inl rfl) (pe_lst pa_nil))
    (pss_cons (ps_for PassesOwn.never rfl (pi_range1 rfl mr (pa_cons (pv 1) pa_nil)) (pg_name (i := 8) scNames.nd rfl (Or.inl rfl)) (pss_cons (ps_set (i := 9) scNames.nd rfl (Or.inl rfl) (pe_op op_add_str (pe_op op_add_str (pv 3) (pe_ix ix_str (pv 2) (pe_op op_mod (pe_op op_add (pv 4) (pe_op op_mul (pv 5) (pv 8))) pe_int) (fun _ _ => rfl))) (pe_op op_mulStr (pv 6) (pe_op op_mod (pv 8) pe_int))))
    (pss_one (ps_expr (pe_bm PySem.F.plainAttrs_list PySem.F.slot_list_append PySem.F.type_list_append mt_append (pv 7) (pa_cons (pe_op op_add_str (pv 9) (pe_op op_mulStr pe_str (pe_callTy call_int1 (by rfl) mi (by decide +kernel) (pa_cons (pe_cmpR op_in_seq (pv 9) (pe_call0 GK hr rfl DK.g DK.F.kp DK.b .nil pass0) (by rfl)) pa_nil)))) pa_nil))))))
    (pss_one (ps_ret (pv 7)))))))))), ?_⟩
  have hd0 := hd
  have dH : ∀ {H1 : Hp}, DrAt H1 d → ∀ {p : Addr}, H1 p = none → d ≠ p := by
    intro H1 h p hp
    obtain ⟨a, b, e, _⟩ := h
    exact ne_of_none e hp
  have dS : ∀ {H1 H2 : Hp}, DrAt H1 d → Same H1 H2 → DrAt H2 d := fun h g => h.keep (SameX.of g) (ex := []) (by simp)
  refine ⟨⟨_, rfl⟩, by show 4 ≤ sizeLine; decide, fun pI hI => ?_⟩
  refine ⟨_, rfl, d, 4, rfl, by decide, by decide, dS hd (Same.new hI _), fun v H1 hv0 hv1 g1 hd1 => ?_⟩
  obtain ⟨m, hm, em⟩ := at_some (f := V.int) (xs := [0, 1, 2, 6]) hv0 hv1
  have hm6 : 0 ≤ m ∧ m ≤ 6 := by
    simp only [List.mem_cons, List.not_mem_nil, or_false] at hm
    omega
  have g01 : SameX [d] H H1 := (SameX.new hI _).trans g1
  refine ⟨pI, _, _, _, rfl, rfl, SqL.of (g1 _ _ upd_same (by simpa using Ne.symm (dH hd hI))), em, m, rfl, by omega, by omega, fun D hD => ?_⟩
  have hD0 : H D = none := g01.none hD (by simpa using Ne.symm (dH hd1 hD))
  have ndD := dH hd1 hD
  refine lc_range (lo := 0) (n := m.toNat) (fun i H' => ∃ acc : List Str, H' D = some (.lst (acc.map V.str)) ∧ acc.length = i ∧ (∀ x ∈ acc, ∃ c ∈ LT, x = ⟨#[c]⟩) ∧ SameX [d] H H' ∧ DrAt H' d)
    ⟨[], upd_same, rfl, by simp, g01.trail hD0 _, dS hd1 (Same.new hD _)⟩ ?_ ?_
  · rintro i H2 hi ⟨acc, hacc, hlen, hone, g2, hd2⟩
    refine ⟨rfl, ?_⟩
    dsimp only [tYes]
    rw [if_pos rfl]
    refine ⟨_, rfl, _, rfl, d, 26, rfl, by decide, by decide, hd2, fun v2 H3 h30 h31 g3 hd3 => ?_⟩
    obtain ⟨c, hc, ec⟩ := let_at h30 h31
    have hacc3 : H3 D = some (.lst (acc.map V.str)) := g3 _ _ hacc (by simpa using Ne.symm ndD)
    refine ⟨letS, v2, c, rfl, rfl, by decide +kernel, ec, acc.map V.str, hacc3, by rw [List.length_map, sizeLine_eq]; omega, acc ++ [⟨#[c]⟩], ?_, by simp [hlen], ?_, (g2.trans g3).trail hD0 _, ?_⟩
    · rw [upd_same, List.map_append]
      rfl
    · intro x hx
      rcases List.mem_append.mp hx with h1 | h1
      · exact hone x h1
      · rw [List.mem_singleton.mp h1]
        exact ⟨c, hc, rfl⟩
    · obtain ⟨a, b, e, h2⟩ := hd3
      exact ⟨a, b, by rw [upd_ne ndD]; exact e, h2⟩
  rintro H2 ⟨acc, hacc, hlen, hone, g2, hd2⟩
  obtain ⟨jl, jm⟩ := join_ones hone
  refine ⟨("" : Str), D, acc, rfl, rfl, .inl (SqL.of hacc), ?_, ?_⟩
  · have e1 : (acc.map (·.length)).sum ≤ acc.length := by
      clear hacc hlen jl jm
      induction acc with
      | nil => exact Nat.le_refl _
      | cons x r ih =>
        obtain ⟨c, _, rfl⟩ := hone x (by simp)
        have := ih fun y hy => hone y (List.mem_cons_of_mem _ hy)
        simp only [List.map_cons, List.sum_cons, List.length_cons]
        have : (⟨#[c]⟩ : Str).length = 1 := rfl
        omega
    have e0 : ("" : Str).length = 0 := by decide +kernel
    rw [e0]
    omega
  generalize hst : Txt.join ("" : Str) acc = stem at jl jm
  have hsl : stem.length ≤ 6 := by omega
  refine ⟨_, rfl, d, 26, rfl, by decide, by decide, hd2, fun first H3 hf0 hf1 g3 hd3 => ?_⟩
  have g03 := g2.trans g3
  refine ⟨by show 6 ≤ sizeLine; decide, fun pS hS => ?_⟩
  refine ⟨_, rfl, d, 6, rfl, by decide, by decide, dS hd3 (Same.new hS _), fun v5 H5 h50 h51 g5 hd5 => ?_⟩
  obtain ⟨step, hstep, est⟩ := at_some (f := V.int) (xs := [1, 3, 5, 7, 25, 23]) h50 h51
  have g05 : SameX [d] H H5 := (g03.trans (SameX.new hS _)).trans g5
  refine ⟨pS, _, _, _, rfl, rfl, SqL.of (g5 _ _ upd_same (by simpa using Ne.symm (dH hd3 hS))), est, ?_⟩
  obtain ⟨cf, hcf, ecf⟩ := let_at hf0 hf1
  refine ⟨_, rfl, _, rfl, letS, first, cf, rfl, rfl, by decide +kernel, ecf, by show 3 ≤ sizeLine; decide, fun pM hM => ?_⟩
  refine ⟨_, rfl, d, 3, rfl, by decide, by decide, dS hd5 (Same.new hM _), fun v6 H6 h60 h61 g6 hd6 => ?_⟩
  obtain ⟨more, hmore, emo⟩ := at_some (f := V.str) (xs := [("" : Str), "z", ⟨#[cf]⟩]) h60 h61
  have hmo : more.length ≤ 1 ∧ ∀ c ∈ tl more, c ∈ LT := by
    simp only [List.mem_cons, List.not_mem_nil, or_false] at hmore
    rcases hmore with rfl | rfl | rfl
    · exact ⟨by decide +kernel, by decide +kernel⟩
    · exact ⟨by decide +kernel, by decide +kernel⟩
    · exact ⟨Nat.le_refl _, fun c hc => by
        have : c = cf := by simpa [tl] using hc
        rw [this]; exact hcf⟩
  have g06 : SameX [d] H H6 := (g05.trans (SameX.new hM _)).trans g6
  refine ⟨pM, _, _, _, rfl, rfl, SqL.of (g6 _ _ upd_same (by simpa using Ne.symm (dH hd5 hM))), emo, ?_⟩
  refine ⟨Nat.zero_le _, fun L hL => ?_⟩
  have ndL := dH hd6 hL
  have hL0 : H L = none := g06.none hL (by simpa using Ne.symm ndL)
  refine ⟨_, rfl, (n : Nat), rfl, by omega, by omega, ?_⟩
  refine for_range (lo := 0) (n := (((n : Nat) : Int)).toNat) (fun i σ H' => ∃ (xs : List Str) (v8 v9 : Option V), σ = [some (.ref d), some (.int (n : Nat)), some (.str letS), some (.str stem), some (.int first), some (.int step), some (.str more), some (.ref L), v8, v9] ∧
      H' L = some (.lst (xs.map V.str)) ∧ xs.length = i ∧ (∀ x ∈ xs, NameOk x) ∧ SameX [d] H H' ∧ DrAt H' d)
    ⟨[], none, none, rfl, upd_same, rfl, by simp, g06.trail hL0 _, dS hd6 (Same.new hL _)⟩ ?_ ?_
  · rintro i σ H7 hi ⟨xs, v8, v9, rfl, hxs, hlen7, hok7, g7, hd7⟩
    have hi2 : i < n := by omega
    have hc1 : CMul step ((0 : Int) + ((i : Nat) : Int)) := .inr ⟨by omega, by omega⟩
    obtain ⟨cx, hcx, ecx⟩ := let_at (v := (first + step * ((0 : Int) + ((i : Nat) : Int))) % 26) (Int.emod_nonneg _ (by decide)) (Int.emod_lt_of_pos _ (by decide))
    have hk0 : 0 ≤ ((0 : Int) + ((i : Nat) : Int)) % 2 := Int.emod_nonneg _ (by decide)
    have hk1 : ((0 : Int) + ((i : Nat) : Int)) % 2 < 2 := Int.emod_lt_of_pos _ (by decide)
    generalize hpar : ((0 : Int) + ((i : Nat) : Int)) % 2 = par at hk0 hk1
    -- the tail
    have htail : (Txt.mul more par).length ≤ 1 ∧ ∀ c ∈ tl (Txt.mul more par), c ∈ LT := by
      have h01 : par = 0 ∨ par = 1 := by omega
      rcases h01 with rfl | rfl
      · rw [mul_zero]; exact ⟨by decide +kernel, by decide +kernel⟩
      · rw [mul_unit]; exact hmo
    have l1 : (stem ++ (⟨#[cx]⟩ : Str)).length = stem.length + 1 := len_app _ _
    have lS : (⟨#[cx]⟩ : Str).length = 1 := rfl
    refine ⟨_, rfl, _, rfl, _, rfl, _, rfl, _, rfl, _, _, rfl, rfl, hc1, _, _, rfl, rfl, _, _, rfl, rfl, by show (0 : Int) < 26; decide, letS, _, cx, rfl, rfl, by decide +kernel, ecx, _, _, rfl, rfl, by rw [lS, sizeLine_eq]; omega, _, rfl, _, rfl, _, _, rfl, rfl, by show (0 : Int) < 2; decide, ?_⟩
    refine ⟨more, par, rfl, congrArg V.int hpar, by omega, hk0, by omega, _, _, rfl, rfl, by rw [l1, sizeLine_eq]; omega, ?_⟩
    generalize hname : stem ++ (⟨#[cx]⟩ : Str) ++ Txt.mul more par = name
    have hlen8 : name.length ≤ 8 := by rw [← hname, len_app, l1]; omega
    have htl : tl name = tl stem ++ [cx] ++ tl (Txt.mul more par) := by
      rw [← hname]
      show TL.tl _ = _
      rw [TL.tl_append, TL.tl_append]
    have hne : tl name ≠ [] := by rw [htl]; simp
    have hall : ∀ c ∈ tl name, c ∈ LT := by
      rw [htl]
      intro c hc
      rcases List.mem_append.mp hc with h1 | h1
      · rcases List.mem_append.mp h1 with h2 | h2
        · exact jm c h2
        · rw [List.mem_singleton.mp h2]; exact hcx
      · exact htail.2 c h1
    refine ⟨_, rfl, .inl ⟨rfl, _, SqL.of hxs⟩, _, rfl, _, rfl, rfl, fun pK hK => ?_⟩
    refine ⟨pK, keysS.map V.str, rfl, .inl (SqL.of upd_same), rfl, by decide +kernel, ?_⟩
    show (∃ i, [V.bl (inV (.str name) (keysS.map V.str))] = [V.int i] ∧ _) ∨ _
    rw [str_in]
    refine .inr ⟨_, rfl, ?_⟩
    -- the name that goes in
    have fin : ∀ nm : Str, NameOk nm → (∃ (l : Addr) (ys : List V) (y : V), V.ref L = .ref l ∧ [V.str nm] = [y] ∧ (upd H7 pK (.lst (keysS.map V.str))) l = some (.lst ys) ∧ ys.length < sizeLine ∧
        (fun (σ' : L2.St) (H' : Hp) => ∃ (xs : List Str) (v8 v9 : Option V), σ' = [some (.ref d), some (.int (n : Nat)), some (.str letS), some (.str stem), some (.int first), some (.int step), some (.str more), some (.ref L), v8, v9] ∧
          H' L = some (.lst (xs.map V.str)) ∧ xs.length = i + 1 ∧ (∀ x ∈ xs, NameOk x) ∧ SameX [d] H H' ∧ DrAt H' d) [some (.ref d), some (.int (n : Nat)), some (.str letS), some (.str stem), some (.int first), some (.int step), some (.str more), some (.ref L), some (.int (0 + (i : Nat))), some (.str name)] (upd (upd H7 pK (.lst (keysS.map V.str))) l (.lst (ys ++ [y])))) := by
      intro nm hnm
      have nLK : L ≠ pK := ne_of_none hxs hK
      have ndK := dH hd7 hK
      refine ⟨L, xs.map V.str, _, rfl, rfl, by rw [upd_ne nLK]; exact hxs, by rw [List.length_map, sizeLine_eq]; omega, xs ++ [nm], _, _, rfl, ?_, by simp [hlen7], ?_, ?_, ?_⟩
      · rw [upd_same, List.map_append]; rfl
      · intro x hx
        rcases List.mem_append.mp hx with h1 | h1
        · exact hok7 x h1
        · rw [List.mem_singleton.mp h1]; exact hnm
      · exact (g7.trans (SameX.new hK _)).trail hL0 _
      · obtain ⟨a, b, e, h2⟩ := hd7
        exact ⟨a, b, by rw [upd_ne ndL, upd_ne ndK]; exact e, h2⟩
    by_cases hkey : name ∈ keysS
    · rw [decide_eq_true hkey]
      have e1 : (Txt.mul ("q" : Str) 1) = "q" := mul_unit _
      refine ⟨("q" : Str), 1, rfl, rfl, by decide +kernel, by decide, by decide, _, _, rfl, rfl, by rw [e1, show ("q" : Str).length = 1 by decide +kernel, sizeLine_eq]; omega, ?_⟩
      rw [e1]
      obtain ⟨h1, h2⟩ := key_q name hkey
      refine fin (name ++ "q") (name_ok ?_ ?_ h2 h1)
      · show TL.tl _ ≠ []
        rw [TL.tl_append]
        intro e
        exact hne (List.append_eq_nil_iff.mp e).1
      · intro c hc
        have hc : c ∈ TL.tl (name ++ ("q" : Str)) := hc
        rw [TL.tl_append] at hc
        rcases List.mem_append.mp hc with h3 | h3
        · exact hall c h3
        · have : ∀ c ∈ tl ("q" : Str), c ∈ LT := by decide +kernel
          exact this c h3
    · rw [decide_eq_false hkey]
      have e1 : (Txt.mul ("q" : Str) 0) = "" := mul_zero _
      refine ⟨("q" : Str), 0, rfl, rfl, by decide +kernel, by decide, by decide, _, _, rfl, rfl, by rw [e1, show ("" : Str).length = 0 by decide +kernel, sizeLine_eq]; omega, ?_⟩
      rw [e1]
      have e2 : name ++ ("" : Str) = name := by
        have h3 : tl (name ++ ("" : Str)) = tl name := by
          show TL.tl _ = _
          rw [TL.tl_append, show TL.tl ("" : Str) = [] by decide +kernel, List.append_nil]
        have h4 := congrArg mkS h3
        exact (TL.mk_tl _).symm.trans (h4.trans (TL.mk_tl _))
      rw [e2]
      exact fin name (name_ok hne hall hlen8 hkey)
  · rintro σ H7 ⟨xs, v8, v9, rfl, hxs, hlen7, hok7, g7, hd7⟩
    exact ⟨_, rfl, q L xs H7 (by omega) hok7 g7 hL0 hxs hd7⟩
end
end TP
set_option maxRecDepth 100000
set_option maxHeartbeats 4000000
namespace TP
open PySem L2
/-! ### the drawn program -/
def DefAt (H : Hp) (v : V) : Prop := ∃ (T : Addr) (q : V) (nm : Str) (pa : Addr) (a b : Str) (tv : V) (t : Tr), v = .ref T ∧ H T = some (.tup [.str "def", q, .str nm, .ref pa, tv]) ∧ H pa = some (.tup [.str a, .str b]) ∧ NameOk nm ∧ NameOk a ∧ NameOk b ∧ TrAt H t tv ∧ t.Ok ∧ t.depth ≤ 6 ∧ cost t ≤ 91
theorem DefAt.mono {H H' : Hp} {v : V} (h : DefAt H v) (k : Tups H H') : DefAt H' v := by
  obtain ⟨T, q, nm, pa, a, b, tv, t, h1, h2, h3, h4, h5, h6, h7, h8⟩ := h
  exact ⟨T, q, nm, pa, a, b, tv, t, h1, k _ _ h2, k _ _ h3, h4, h5, h6, TrAt.mono k _ _ h7, h8⟩
theorem at_someV {xs : List V} {v : Int} (h0 : 0 ≤ v) (h1 : v < ((xs.length : Nat) : Int)) : ∃ x ∈ xs, atI xs v = some x := by
  have hv : v.toNat < xs.length := by omega
  exact ⟨xs[v.toNat], List.getElem_mem hv, atI_get h0 (by simp [hv])⟩
theorem two_new {H : Hp} {p1 p2 p3 : Addr} {xs ys zs : List V} (h1 : H p1 = none) (h2 : upd H p1 (.tup xs) p2 = none) (h3 : upd (upd H p1 (.tup xs)) p2 (.tup ys) p3 = none) :
    Same H (upd (upd (upd H p1 (.tup xs)) p2 (.tup ys)) p3 (.lst zs)) ∧ upd (upd (upd H p1 (.tup xs)) p2 (.tup ys)) p3 (.lst zs) p1 = some (.tup xs) ∧ upd (upd (upd H p1 (.tup xs)) p2 (.tup ys)) p3 (.lst zs) p2 = some (.tup ys) :=
  ⟨((Same.new h1 _).trans (Same.new h2 _)).trans (Same.new h3 _), (Same.new h3 _) _ _ ((Same.new h2 _) _ _ upd_same), (Same.new h3 _) _ _ upd_same⟩
theorem seven {α : Type} {xs : List α} (h : xs.length = 7) : ∃ a b c d e f g, xs = [a, b, c, d, e, f, g] := by
  match xs, h with
  | [a, b, c, d, e, f, g], _ => exact ⟨a, b, c, d, e, f, g, rfl⟩
def spLean : Sp := fun vs H Q _ => ∃ (d : Addr), vs = [.ref d] ∧ DrAt H d ∧ ∀ (p pt : Addr) (vh : V) (ds : List V) (H' : Hp), SameX [d] H H' → DrAt H' d → H' p = some (.tup [.ref pt, vh]) → H' pt = some (.tup ds) → ds.length ≤ 3 → (∀ v ∈ ds, DefAt H' v) → Q (.ref p) H'
abbrev nLean : List Str := ["draws", "names", "program", "k", "params", "tree", "j", "place", "ones", "one", "way", "sign"]
section
variable {P : Program} {w : World} {K : PySem.W.Frag} {mg : Str → Option Value} {base : Heap}
theorem scLean : FnScope nLean ["draws"] (defScope sLean) := ⟨rfl, rfl, rfl, by decide +kernel, rfl, by decide +kernel, by decide +kernel⟩
theorem ok_lean {f fD fN : Addr} {fd fdD fdN : FuncData} (F : Fun K "_law_lean" "_law_lean" sLean f fd) (DD : Df K mg "_law_draw" sDraw fD fdD ["draws", "many"]) (DN : Df K mg "_law_names" sNames fN fdN ["draws", "many"]) (GN : FnOk P w K mg base CX0 2 fN fdN ["draws", "many"] spNames)
    (mr : mg "range" = none) (mt : mg "tuple" = none) : FnOk P w K mg base CX0 3 f fd ["draws"] spLean := by
  have GD : Draw P w K mg base fD fdD := ok_draw DD.F
  refine F.ok scLean (fun vs H Q E h => ?_) (fun cdv A outer s H vs Q E hr h => ?_)
  · obtain ⟨d, rfl, _⟩ := h
    rfl
  obtain ⟨d, rfl, hd, q⟩ := h
  have hr1 : Room 1 _ := hr.mono (by omega)
  refine ⟨_, (pss_cons (ps_set (i := 1) scLean.nd rfl (Or.inl rfl) (pe_call GN hr rfl DN.g DN.F.kp DN.b .nil pass0 (pa_cons (pv 0) (pa_cons pe_int pa_nil))))
    (pss_cons (ps_set (i := 2) scLean.nd rfl (Or.inl rfl) (pe_lst pa_nil))
    (pss_cons (ps_for PassesOwn.never rfl (pi_range1 rfl mr (pa_cons (pe_op op_add pe_int (pe_call GD hr1 rfl DD.g DD.F.kp DD.b .nil pass0 (pa_cons (pv 0) (pa_cons pe_int pa_nil)))) pa_nil)) (pg_name (i := 3) scLean.nd rfl (Or.inl rfl)) (pss_cons (ps_set (i := 4) scLean.nd rfl (Or.inl rfl) (pe_tup (pa_cons (pe_ix ix_list (pv 1) pe_int (fun _ _ => rfl)) (pa_cons (pe_ix ix_list (pv 1) pe_int (fun _ _ => rfl)) pa_nil))))
    (pss_cons (ps_set (i := 5) scLean.nd rfl (Or.inl rfl) (pe_tup (pa_cons pe_str (pa_cons (pe_tup (pa_cons (pv 3) (pa_cons pe_int pa_nil))) (pa_cons (pe_ix ix_tup (pv 4) (pe_call GD hr1 rfl DD.g DD.F.kp DD.b .nil pass0 (pa_cons (pv 0) (pa_cons pe_int pa_nil))) (fun _ _ => rfl)) (pa_cons (pe_tup pa_nil) pa_nil))))))
    (pss_cons (ps_for PassesOwn.never rfl (pi_range1 rfl mr (pa_cons (pe_call GD hr1 rfl DD.g DD.F.kp DD.b .nil pass0 (pa_cons (pv 0) (pa_cons pe_int pa_nil))) pa_nil)) (pg_name (i := 6) scLean.nd rfl (Or.inl rfl)) (pss_cons (ps_set (i := 7) scLean.nd rfl (Or.inl rfl) (pe_tup (pa_cons (pv 3) (pa_cons (pe_op op_add pe_int (pv 6)) pa_nil))))
    (pss_cons (ps_set (i := 8) scLean.nd rfl (Or.inl rfl) (pe_lst (pa_cons (pe_tup (pa_cons pe_str (pa_cons (pe_tup (pa_cons (pv 3) (pa_cons (pe_op op_add pe_int (pv 6)) pa_nil))) (pa_cons (pe_ix ix_tup (pv 4) (pe_call GD hr1 rfl DD.g DD.F.kp DD.b .nil pass0 (pa_cons (pv 0) (pa_cons pe_int pa_nil))) (fun _ _ => rfl)) (pa_cons (pe_tup pa_nil) pa_nil))))) (pa_cons (pe_tup (pa_cons pe_str (pa_cons (pe_tup (pa_cons (pv 3) (pa_cons (pe_op op_add pe_int (pv 6)) pa_nil))) pa_nil))) pa_nil))))
    (C8.pss_cut (ps_set (i := 9) scLean.nd rfl (Or.inl rfl) (pe_ix ix_list (pe_op op_cat (pv 8) (pe_lst (pa_cons (pe_tup (pa_cons pe_str (pa_cons (pe_tup (pa_cons (pv 3) (pa_cons (pe_op op_add pe_int (pv 6)) pa_nil))) (pa_cons (pe_call GD hr1 rfl DD.g DD.F.kp DD.b .nil pass0 (pa_cons (pv 0) (pa_cons pe_int pa_nil))) pa_nil)))) pa_nil))) (pe_call GD hr1 rfl DD.g DD.F.kp DD.b .nil pass0 (pa_cons (pv 0) (pa_cons pe_int pa_nil))) (fun _ _ => rfl)))
    (pss_cons (ps_set (i := 10) scLean.nd rfl (Or.inl rfl) (pe_call GD hr1 rfl DD.g DD.F.kp DD.b .nil pass0 (pa_cons (pv 0) (pa_cons pe_int pa_nil))))
    (pss_one (ps_if (pt_cmpR op_lt (pv 10) pe_int (nomark _)) (pss_cons (ps_set (i := 11) scLean.nd rfl (Or.inl rfl) (pe_ix ix_list (pe_lst (pa_cons pe_str (pa_cons pe_str (pa_cons pe_str (pa_cons pe_str (pa_cons pe_str pa_nil)))))) (pe_call GD hr1 rfl DD.g DD.F.kp DD.b .nil pass0 (pa_cons (pv 0) (pa_cons pe_int pa_nil))) (fun _ _ => rfl)))
    (pss_one (ps_set (i := 5) scLean.nd rfl (Or.inl rfl) (pe_ix ix_list (pe_lst (pa_cons (pe_tup (pa_cons pe_str (pa_cons (pv 7) (pa_cons (pv 11) (pa_cons (pv 9) (pa_cons (pv 5) pa_nil)))))) (pa_cons (pe_tup (pa_cons pe_str (pa_cons (pv 7) (pa_cons (pv 11) (pa_cons (pv 5) (pa_cons (pv 9) pa_nil)))))) pa_nil))) (pe_op op_mod (pv 10) pe_int) (fun _ _ => rfl))))) (pss_one (ps_if (pt_cmpR op_eq (pv 10) pe_int (nomark _)) (pss_one (ps_set (i := 5) scLean.nd rfl (Or.inl rfl) (pe_ix ix_list (pe_lst (pa_cons (pe_tup (pa_cons pe_str (pa_cons (pv 7) (pa_cons (pv 9) (pa_cons (pv 5) (pa_cons (pv 9) pa_nil)))))) (pa_cons (pe_tup (pa_cons pe_str (pa_cons (pv 7) (pa_cons (pv 5) (pa_cons (pv 9) (pa_cons (pv 9) pa_nil)))))) pa_nil))) (pe_call GD hr1 rfl DD.g DD.F.kp DD.b .nil pass0 (pa_cons (pv 0) (pa_cons pe_int pa_nil))) (fun _ _ => rfl)))) (pss_one (ps_if (pt_cmpR op_eq (pv 10) pe_int (nomark _)) (pss_one (ps_set (i := 5) scLean.nd rfl (Or.inl rfl) (pe_ix ix_list (pe_lst (pa_cons (pe_tup (pa_cons pe_str (pa_cons (pv 7) (pa_cons (pe_ix ix_list (pv 1) pe_int (fun _ _ => rfl)) (pa_cons (pv 9) (pa_cons (pv 5) pa_nil)))))) (pa_cons (pe_tup (pa_cons pe_str (pa_cons (pv 7) (pa_cons (pe_ix ix_list (pv 1) pe_int (fun _ _ => rfl)) (pa_cons (pv 5) (pa_cons (pv 9) pa_nil)))))) pa_nil))) (pe_call GD hr1 rfl DD.g DD.F.kp DD.b .nil pass0 (pa_cons (pv 0) (pa_cons pe_int pa_nil))) (fun _ _ => rfl)))) (pss_one (ps_if (pt_cmpR op_eq (pv 10) pe_int (nomark _)) (pss_one (ps_set (i := 5) scLean.nd rfl (Or.inl rfl) (pe_tup (pa_cons pe_str (pa_cons (pv 7) (pa_cons (pv 9) (pa_cons (pv 5) (pa_cons (pe_ix ix_list (pv 1) pe_int (fun _ _ => rfl)) (pa_cons (pe_ix ix_list (pv 1) (pe_op op_sub pe_int (pe_op op_mul pe_int (pe_call GD hr1 rfl DD.g DD.F.kp DD.b .nil pass0 (pa_cons (pv 0) (pa_cons pe_int pa_nil))))) (fun _ _ => rfl)) (pa_cons (pv 9) pa_nil)))))))))) (pss_one (ps_set (i := 5) scLean.nd rfl (Or.inl rfl) (pe_tup (pa_cons pe_str (pa_cons (pv 7) (pa_cons (pe_ix ix_list (pv 1) (pe_call GD hr1 rfl DD.g DD.F.kp DD.b .nil pass0 (pa_cons (pv 0) (pa_cons (pe_op op_add (pv 3) pe_int) pa_nil))) (fun _ _ => rfl)) (pa_cons (pe_tup (pa_cons (pv 5) (pa_cons (pv 9) pa_nil))) pa_nil))))))))))))))))))))
    (pss_one (ps_expr (pe_bm PySem.F.plainAttrs_list PySem.F.slot_list_append PySem.F.type_list_append mt_append (pv 2) (pa_cons (pe_tup (pa_cons pe_str (pa_cons (pe_tup (pa_cons (pv 3) (pa_cons pe_int pa_nil))) (pa_cons (pe_ix ix_list (pv 1) (pv 3) (fun _ _ => rfl)) (pa_cons (pv 4) (pa_cons (pv 5) pa_nil)))))) pa_nil))))))))
    (pss_one (ps_ret (pe_tup (pa_cons (pe_callTy call_tuple_of (by rfl) mt (by decide +kernel) (pa_cons (pv 2) pa_nil)) (pa_cons (pe_lc (own := [("one", 9)]) (g := gName 9) rfl scLean.nd (pi_list (pv 2)) (blkOk_by (N := nLean) (sc := defScope sLean) (by decide +kernel)) (fun _ _ _ _ _ => pg_name scLean.nd rfl (Or.inl rfl)) (fun _ _ _ _ _ => pts_nil) (fun _ _ _ _ _ => (pe_tup (pa_cons (pe_ix (show IxR _ (rIxT K) from ix_tup) (pv 9) pe_int (fun _ _ => rfl)) (pa_cons (pe_lst (pa_cons pe_str (pa_cons pe_str pa_nil))) (pa_cons pe_str pa_nil)))))) pa_nil)))))))), ?_⟩
  have dH : ∀ {H1 : Hp}, DrAt H1 d → ∀ {p : Addr}, H1 p = none → d ≠ p := by
    intro H1 h p hp
    obtain ⟨a, b, e, _⟩ := h
    exact ne_of_none e hp
  have dS : ∀ {H1 H2 : Hp}, DrAt H1 d → Same H1 H2 → DrAt H2 d := fun h g => h.keep (SameX.of g) (ex := []) (by simp)
  refine ⟨_, rfl, d, 7, rfl, by decide, hd, fun N nms H1 hn7 hnok g1 hN0 hN1 hd1 => ?_⟩
  obtain ⟨x0, x1, x2, x3, x4, x5, x6, rfl⟩ := seven hn7
  have ndN : N ≠ d := Ne.symm (dH hd hN0)
  have o3 : NameOk x3 := hnok _ (by simp)
  have o4 : NameOk x4 := hnok _ (by simp)
  have o5 : NameOk x5 := hnok _ (by simp)
  have o6 : NameOk x6 := hnok _ (by simp)
  refine ⟨Nat.zero_le _, fun L hL => ?_⟩
  have ndL : L ≠ d := Ne.symm (dH hd1 hL)
  have hL0 : H L = none := g1.none hL (by simpa using ndL)
  have hd2 := dS hd1 (Same.new hL (.lst []))
  have hN2 := (Same.new hL (.lst [])) _ _ hN1
  refine ⟨_, rfl, d, 3, rfl, by decide, by decide, hd2, fun many H3 hm0 hm1 g3 hd3 => ?_⟩
  have g03 : SameX [d] H H3 := (g1.trans (SameX.new hL _)).trans g3
  refine ⟨_, _, rfl, rfl, 1 + many, rfl, by omega, by omega, ?_⟩
  refine for_range (lo := 0) (n := (1 + many).toNat) (fun i σ H' => ∃ (ds : List V) (v3 v4 v5 v6 v7 v8 v9 v10 v11 : Option V), σ = [some (.ref d), some (.ref N), some (.ref L), v3, v4, v5, v6, v7, v8, v9, v10, v11] ∧
      H' N = some (.lst ([x0, x1, x2, x3, x4, x5, x6].map V.str)) ∧ H' L = some (.lst ds) ∧ ds.length = i ∧ (∀ v ∈ ds, DefAt H' v) ∧ SameX [d] H H' ∧ DrAt H' d)
    ⟨[], none, none, none, none, none, none, none, none, none, rfl, g3 _ _ hN2 (by simpa using ndN), g3 _ _ upd_same (by simpa using ndL), rfl, by simp, g03, hd3⟩ ?_ ?_
  · rintro k σ H4 hk ⟨ds, v3, v4, v5, v6, v7, v8, v9, v10, v11, rfl, hN4, hL4, hlen, hds, g4, hd4⟩
    have hk3 : k < 3 := by omega
    refine ⟨_, rfl, N, _, _, _, rfl, rfl, SqL.of hN4, rfl, _, rfl, N, _, _, _, rfl, rfl, SqL.of hN4, rfl, by show 2 ≤ sizeLine; decide, fun pp hpp => ?_⟩
    have s5 := Same.new hpp (.tup [.str x3, .str x4])
    refine ⟨_, rfl, by show 2 ≤ sizeLine; decide, fun pq hpq => ?_⟩
    have s6 := s5.trans (Same.new hpq (.tup [.int (0 + (k : Nat)), .int 0]))
    refine ⟨_, rfl, _, rfl, d, 2, rfl, by decide, by decide, dS hd4 s6, fun vp H7 hp0 hp1 g7 hd7 => ?_⟩
    obtain ⟨xa, hxa, exa⟩ := at_some (f := V.str) (xs := [x3, x4]) hp0 hp1
    have oa : NameOk xa := by
      simp only [List.mem_cons, List.not_mem_nil, or_false] at hxa
      rcases hxa with rfl | rfl
      · exact o3
      · exact o4
    have g47 : SameX [d] H4 H7 := (SameX.of s6).trans g7
    have npp : pp ≠ d := Ne.symm (dH hd4 hpp)
    have hpp7 : H7 pp = some (.tup [.str x3, .str x4]) := g7 _ _ ((Same.new hpq _) _ _ upd_same) (by simpa using npp)
    refine ⟨pp, _, _, _, rfl, rfl, SqT.of hpp7, exa, Nat.zero_le _, fun pE hE => ?_⟩
    have s8 := Same.new hE (.tup [])
    refine ⟨by show 4 ≤ sizeLine; decide, fun pT hT => ?_⟩
    have s9 := s8.trans (Same.new hT (.tup [.str "use", .ref pq, .str xa, .ref pE]))
    have hd9 := dS hd7 s9
    have tr9 : TrAt (upd (upd H7 pE (.tup [])) pT (.tup [.str "use", .ref pq, .str xa, .ref pE])) (.use0 xa) (.ref pT) := ⟨pT, .ref pq, pE, rfl, upd_same, (Same.new hT _) _ _ upd_same⟩
    have g49 : SameX [d] H4 (upd (upd H7 pE (.tup [])) pT (.tup [.str "use", .ref pq, .str xa, .ref pE])) := g47.trans (SameX.of s9)
    have hpp9 : upd (upd H7 pE (.tup [])) pT (.tup [.str "use", .ref pq, .str xa, .ref pE]) pp = some (.tup [.str x3, .str x4]) := s9 _ _ hpp7
    generalize upd (upd H7 pE (.tup [])) pT (.tup [.str "use", .ref pq, .str xa, .ref pE]) = H9 at hd9 tr9 g49 hpp9 ⊢
    refine ⟨_, rfl, d, 6, rfl, by decide, by decide, hd9, fun mj H10 hj0 hj1 g10 hd10 => ⟨mj, rfl, by omega, by omega, ?_⟩⟩
    have g4x : SameX [d] H4 H10 := g49.trans g10
    refine for_range (lo := 0) (n := mj.toNat) (fun j σ H' => ∃ (t : Tr) (v : V) (w6 w7 w8 w9 w10 w11 : Option V), σ = [some (.ref d), some (.ref N), some (.ref L), some (.int (0 + (k : Nat))), some (.ref pp), some v, w6, w7, w8, w9, w10, w11] ∧
        TrAt H' t v ∧ t.Ok ∧ t.depth ≤ j + 1 ∧ cost t ≤ 1 + 18 * j ∧ SameX [d] H10 H' ∧ DrAt H' d)
      ⟨.use0 xa, .ref pT, v6, v7, v8, v9, v10, v11, rfl, TrAt.mono (d_tups hd9 g10) _ _ tr9, oa, Nat.le_refl _, Nat.le_refl _, SameX.refl _ _, hd10⟩ ?_ ?_
    · rintro j σ H11 hj ⟨t, v, w6, w7, w8, w9, w10, w11, rfl, ht, hok, hdep, hcost, g11, hd11⟩
      have hpp10 : H10 pp = some (.tup [.str x3, .str x4]) := g10 _ _ hpp9 (by simpa using npp)
      have hN10 : H10 N = some (.lst ([x0, x1, x2, x3, x4, x5, x6].map V.str)) := g4x _ _ hN4 (by simpa using ndN)
      -- place, ones
      refine ⟨_, rfl, _, rfl, _, _, rfl, rfl, by show 2 ≤ sizeLine; decide, fun pa hpa => ?_⟩
      have b1 := Same.new hpa (.tup [.int (0 + (k : Nat)), .int (40 + (0 + (j : Nat)))])
      refine ⟨_, rfl, _, rfl, _, _, rfl, rfl, by show 2 ≤ sizeLine; decide, fun p1 hp1 => ?_⟩
      have b2 := b1.trans (Same.new hp1 (.tup [.int (0 + (k : Nat)), .int (10 + (0 + (j : Nat)))]))
      refine ⟨_, rfl, _, rfl, d, 2, rfl, by decide, by decide, dS hd11 b2, fun va H12 ha0 ha1 g12 hd12 => ?_⟩
      obtain ⟨xb, hxb, exb⟩ := at_some (f := V.str) (xs := [x3, x4]) ha0 ha1
      have ob : NameOk xb := by
        simp only [List.mem_cons, List.not_mem_nil, or_false] at hxb
        rcases hxb with rfl | rfl
        · exact o3
        · exact o4
      have g1112 : SameX [d] H11 H12 := (SameX.of b2).trans g12
      have hpp12 : H12 pp = some (.tup [.str x3, .str x4]) := g1112 _ _ (g11 _ _ hpp10 (by simpa using npp)) (by simpa using npp)
      refine ⟨pp, _, _, _, rfl, rfl, SqT.of hpp12, exb, Nat.zero_le _, fun pe he => ?_⟩
      have c1 := Same.new he (.tup [])
      refine ⟨by show 4 ≤ sizeLine; decide, fun pu hu => ?_⟩
      have hu1 : upd (upd H12 pe (.tup [])) pu (.tup [.str "use", .ref p1, .str xb, .ref pe]) pe = some (.tup []) := (Same.new hu _) _ _ upd_same
      have c2 := c1.trans (Same.new hu (.tup [.str "use", .ref p1, .str xb, .ref pe]))
      have tu : TrAt (upd (upd H12 pe (.tup [])) pu (.tup [.str "use", .ref p1, .str xb, .ref pe])) (.use0 xb) (.ref pu) := ⟨pu, .ref p1, pe, rfl, upd_same, hu1⟩
      generalize upd (upd H12 pe (.tup [])) pu (.tup [.str "use", .ref p1, .str xb, .ref pe]) = H13 at hu1 c2 tu ⊢
      have hd13 := dS hd12 c2
      refine ⟨_, rfl, _, rfl, _, _, rfl, rfl, by show 2 ≤ sizeLine; decide, fun p2 hp2 => ?_⟩
      have d1 := Same.new hp2 (.tup [.int (0 + (k : Nat)), .int (20 + (0 + (j : Nat)))])
      refine ⟨by show 2 ≤ sizeLine; decide, fun pn hpn => ?_⟩
      have d2 := d1.trans (Same.new hpn (.tup [.str "nil", .ref p2]))
      refine ⟨by show 2 ≤ sizeLine; decide, fun pl hpl => ?_⟩
      have d3 := d2.trans (Same.new hpl (.lst [.ref pu, .ref pn]))
      have hpn1 := (Same.new hpl (.lst [.ref pu, .ref pn])) _ _ (upd_same (H := upd H13 p2 (.tup [.int (0 + (k : Nat)), .int (20 + (0 + (j : Nat)))])) (a := pn) (o := .tup [.str "nil", .ref p2]))
      have hpl1 := upd_same (H := upd (upd H13 p2 (.tup [.int (0 + (k : Nat)), .int (20 + (0 + (j : Nat)))])) pn (.tup [.str "nil", .ref p2])) (a := pl) (o := .lst [.ref pu, .ref pn])
      generalize upd (upd (upd H13 p2 (.tup [.int (0 + (k : Nat)), .int (20 + (0 + (j : Nat)))])) pn (.tup [.str "nil", .ref p2])) pl (.lst [.ref pu, .ref pn]) = H14 at d3 hpn1 hpl1 ⊢
      have hd14 := dS hd13 d3
      have tn : TrAt H14 .nil (.ref pn) := ⟨pn, .ref p2, rfl, hpn1⟩
      have tu14 := TrAt.mono (Same.tups d3) _ _ tu
      have g1114 : SameX [d] H11 H14 := (g1112.trans (SameX.of c2)).trans (SameX.of d3)
      -- one of them
      refine ⟨fun σ H' => ∃ (t1 : Tr) (v1 v7 v8 : V) (w10 w11 : Option V), σ = [some (.ref d), some (.ref N), some (.ref L), some (.int (0 + (k : Nat))), some (.ref pp), some v, some (.int (0 + (j : Nat))), some v7, some v8, some v1, w10, w11] ∧
          TrAt H' t1 v1 ∧ t1.Ok ∧ t1.depth = 1 ∧ cost t1 = 1 ∧ TrAt H' t v ∧ SameX [d] H10 H' ∧ DrAt H' d, ?_, ?_⟩
      · refine ⟨_, rfl, _, rfl, _, rfl, _, _, rfl, rfl, by show 2 ≤ sizeLine; decide, fun p3 hp3 => ?_⟩
        have e1 := Same.new hp3 (.tup [.int (0 + (k : Nat)), .int (30 + (0 + (j : Nat)))])
        refine ⟨_, rfl, d, 9, rfl, by decide, by decide, dS hd14 e1, fun vn H15 hn0 hn1 g15 hd15 => ?_⟩
        refine ⟨by show 3 ≤ sizeLine; decide, fun pm hpm => ?_⟩
        have f1 := Same.new hpm (.tup [.str "num", .ref p3, .int vn])
        refine ⟨by show 1 ≤ sizeLine; decide, fun pz hpz => ?_⟩
        have f2 := f1.trans (Same.new hpz (.lst [.ref pm]))
        have hpm1 := (Same.new hpz (.lst [.ref pm])) _ _ (upd_same (H := H15) (a := pm) (o := .tup [.str "num", .ref p3, .int vn]))
        have hpz1 := upd_same (H := upd H15 pm (.tup [.str "num", .ref p3, .int vn])) (a := pz) (o := .lst [.ref pm])
        generalize upd (upd H15 pm (.tup [.str "num", .ref p3, .int vn])) pz (.lst [.ref pm]) = H16 at f2 hpm1 hpz1 ⊢
        have g1416 : SameX [d] H14 H16 := ((SameX.of e1).trans g15).trans (SameX.of f2)
        have npl : pl ≠ d := by
          intro e
          rw [e] at hpl1
          obtain ⟨a, b, e2, _⟩ := hd14
          rw [e2] at hpl1
          cases hpl1
        have hd16 := dS hd15 f2
        refine ⟨pl, pz, _, _, rfl, rfl, g1416 _ _ hpl1 (by simpa using npl), hpz1, by show 3 ≤ sizeLine; decide, fun pc hpc => ?_⟩
        have s17 := Same.new hpc (.lst ([.ref pu, .ref pn] ++ [.ref pm]))
        have hpcd : pc ≠ d := Ne.symm (dH hd16 hpc)
        refine ⟨_, rfl, d, 3, rfl, by decide, by decide, dS hd16 s17, fun vi H18 hi0 hi1 g18 hd18 => ?_⟩
        have g1418 : SameX [d] H14 H18 := (g1416.trans (SameX.of s17)).trans g18
        have k1 : Tups H14 H18 := d_tups hd14 g1418
        have k2 : Tups H16 H18 := Tups.trans (Same.tups s17) (d_tups (dS hd16 s17) g18)
        obtain ⟨v1, hv1, ev1⟩ := at_someV (xs := [.ref pu, .ref pn, .ref pm]) hi0 hi1
        refine ⟨pc, _, _, _, rfl, rfl, SqL.of (g18 _ _ upd_same (by simpa using hpcd)), ev1, ?_⟩
        have gH : SameX [d] H10 H18 := (g11.trans g1114).trans g1418
        have tt : TrAt H18 t v := TrAt.mono (d_tups hd11 (g1114.trans g1418)) _ _ ht
        simp only [List.mem_cons, List.not_mem_nil, or_false] at hv1
        rcases hv1 with rfl | rfl | rfl
        · exact ⟨.use0 xb, _, .ref pa, .ref pl, w10, w11, rfl, TrAt.mono k1 _ _ tu14, ob, rfl, rfl, tt, gH, hd18⟩
        · exact ⟨.nil, _, .ref pa, .ref pl, w10, w11, rfl, TrAt.mono k1 _ _ tn, trivial, rfl, rfl, tt, gH, hd18⟩
        · exact ⟨.num vn, _, .ref pa, .ref pl, w10, w11, rfl, TrAt.mono k2 _ _ ⟨pm, .ref p3, rfl, hpm1⟩, ⟨hn0, by omega⟩, rfl, rfl, tt, gH, hd18⟩
      rintro σ H20 ⟨t1, v1, v7, v8, w10, w11, rfl, ht1, hok1, hdep1, hcost1, ht2, g20, hd20⟩
      refine ⟨_, rfl, d, 7, rfl, by decide, by decide, hd20, fun way H21 hw0 hw1 g21 hd21 => ?_⟩
      have g1021 : SameX [d] H10 H21 := g20.trans g21
      have ht1' := TrAt.mono (d_tups hd20 g21) _ _ ht1
      have ht2' := TrAt.mono (d_tups hd20 g21) _ _ ht2
      have hN21 : H21 N = some (.lst ([x0, x1, x2, x3, x4, x5, x6].map V.str)) := g1021 _ _ hN10 (by simpa using ndN)
      -- the tree it makes
      have fin : ∀ (t' : Tr) (v' : V) (H' : Hp) (w11 : Option V), TrAt H' t' v' → t'.Ok → t'.depth ≤ j + 2 → cost t' ≤ 1 + 18 * (j + 1) → SameX [d] H21 H' → DrAt H' d →
          ∃ (t : Tr) (v : V) (w6 w7 w8 w9 w10 w11' : Option V), ([some (.ref d), some (.ref N), some (.ref L), some (.int (0 + (k : Nat))), some (.ref pp), some v', some (.int (0 + (j : Nat))), some v7, some v8, some v1, some (.int way), w11] : L2.St) = [some (.ref d), some (.ref N), some (.ref L), some (.int (0 + (k : Nat))), some (.ref pp), some v, w6, w7, w8, w9, w10, w11'] ∧
            TrAt H' t v ∧ t.Ok ∧ t.depth ≤ j + 1 + 1 ∧ cost t ≤ 1 + 18 * (j + 1) ∧ SameX [d] H10 H' ∧ DrAt H' d := by
        intro t' v' H' w11 a1 a2 a3 a4 a5 a6
        exact ⟨t', v', _, _, _, _, _, _, rfl, a1, a2, a3, a4, g1021.trans a5, a6⟩
      -- two of them in a list, and one drawn
      have two : ∀ (ta tb : Tr) (xs ys : List V) (p1 p2 p3 : Addr) (h1 : H21 p1 = none) (h2 : upd H21 p1 (.tup xs) p2 = none) (h3 : upd (upd H21 p1 (.tup xs)) p2 (.tup ys) p3 = none), True := fun _ _ _ _ _ _ _ _ _ _ => trivial
      refine ⟨_, rfl, _, _, rfl, rfl, _, rfl, ite2 (fun c => ?_) (fun c => ?_)⟩
      · refine ⟨by show 5 ≤ sizeLine; decide, fun ps hps => ?_⟩
        refine ⟨_, rfl, d, 5, rfl, by decide, by decide, dS hd21 (Same.new hps _), fun vo H22 ho0 ho1 g22 hd22 => ?_⟩
        obtain ⟨so, hso, eso⟩ := at_some (f := V.str) (xs := opsS) ho0 ho1
        have npsd : ps ≠ d := Ne.symm (dH hd21 hps)
        refine ⟨ps, _, _, _, rfl, rfl, SqL.of (g22 _ _ upd_same (by simpa using npsd)), eso, ?_⟩
        have g2122 : SameX [d] H21 H22 := (SameX.new hps _).trans g22
        have k22 := d_tups hd21 g2122
        refine ⟨_, rfl, _, rfl, _, rfl, _, rfl, by show 5 ≤ sizeLine; decide, fun q1 h1 => ⟨_, rfl, _, rfl, _, rfl, _, rfl, by show 5 ≤ sizeLine; decide, fun q2 h2 => ⟨by show 2 ≤ sizeLine; decide, fun q3 h3 => ?_⟩⟩⟩
        obtain ⟨z1, z2, z3⟩ := two_new (zs := [.ref q1, .ref q2]) h1 h2 h3
        obtain ⟨vc, hvc, evc⟩ := at_someV (xs := [.ref q1, .ref q2]) (v := way % 2) (Int.emod_nonneg _ (by decide)) (Int.emod_lt_of_pos _ (by decide))
        refine ⟨_, rfl, _, _, rfl, rfl, by show (0 : Int) < 2; decide, q3, _, _, _, rfl, rfl, SqL.of upd_same, evc, ?_⟩
        have m1 := TrAt.mono (Tups.trans k22 (Same.tups z1)) _ _ ht1'
        have m2 := TrAt.mono (Tups.trans k22 (Same.tups z1)) _ _ ht2'
        simp only [List.mem_cons, List.not_mem_nil, or_false] at hvc
        rcases hvc with rfl | rfl
        · exact fin (.op so t1 t) _ _ _ ⟨q1, v7, v1, v, rfl, z2, m1, m2⟩ ⟨hso, hok1, hok⟩ (by simp only [Tr.depth]; omega) (by simp only [cost]; omega) (g2122.trans (SameX.of z1)) (dS hd22 z1)
        · exact fin (.op so t t1) _ _ _ ⟨q2, v7, v, v1, rfl, z3, m2, m1⟩ ⟨hso, hok, hok1⟩ (by simp only [Tr.depth]; omega) (by simp only [cost]; omega) (g2122.trans (SameX.of z1)) (dS hd22 z1)
      refine ⟨_, rfl, rfl, _, rfl, ite2 (fun c => ?_) (fun c => ?_)⟩
      · refine ⟨_, rfl, _, rfl, _, rfl, _, rfl, by show 5 ≤ sizeLine; decide, fun q1 h1 => ⟨_, rfl, _, rfl, _, rfl, _, rfl, by show 5 ≤ sizeLine; decide, fun q2 h2 => ⟨by show 2 ≤ sizeLine; decide, fun q3 h3 => ?_⟩⟩⟩
        obtain ⟨z1, z2, z3⟩ := two_new (zs := [.ref q1, .ref q2]) h1 h2 h3
        have nq3 : q3 ≠ d := Ne.symm (dH (dS hd21 ((Same.new h1 _).trans (Same.new h2 _))) h3)
        refine ⟨_, rfl, d, 2, rfl, by decide, by decide, dS hd21 z1, fun vo H22 ho0 ho1 g22 hd22 => ?_⟩
        obtain ⟨vc, hvc, evc⟩ := at_someV (xs := [.ref q1, .ref q2]) ho0 ho1
        have gg : SameX [d] H21 H22 := (SameX.of z1).trans g22
        have kk := d_tups hd21 gg
        have k2 := d_tups (dS hd21 z1) g22
        refine ⟨q3, _, _, _, rfl, rfl, SqL.of (g22 _ _ upd_same (by simpa using nq3)), evc, ?_⟩
        have m1 := TrAt.mono kk _ _ ht1'
        have m2 := TrAt.mono kk _ _ ht2'
        simp only [List.mem_cons, List.not_mem_nil, or_false] at hvc
        rcases hvc with rfl | rfl
        · exact fin (.ife t1 t t1) _ _ _ ⟨q1, v7, v1, v, v1, rfl, k2 _ _ z2, m1, m2, m1⟩ ⟨hok1, hok, hok1⟩ (by simp only [Tr.depth]; omega) (by simp only [cost]; omega) gg hd22
        · exact fin (.ife t t1 t1) _ _ _ ⟨q2, v7, v, v1, v1, rfl, k2 _ _ z3, m2, m1, m1⟩ ⟨hok, hok1, hok1⟩ (by simp only [Tr.depth]; omega) (by simp only [cost]; omega) gg hd22
      refine ⟨_, rfl, rfl, _, rfl, ite2 (fun c => ?_) (fun c => ?_)⟩
      · refine ⟨_, rfl, _, rfl, N, _, _, _, rfl, rfl, SqL.of hN21, rfl, _, rfl, _, rfl, by show 5 ≤ sizeLine; decide, fun q1 h1 => ⟨_, rfl, _, rfl, N, _, _, _, rfl, rfl, SqL.of ((Same.new h1 _) _ _ hN21), rfl, _, rfl, _, rfl, by show 5 ≤ sizeLine; decide, fun q2 h2 => ⟨by show 2 ≤ sizeLine; decide, fun q3 h3 => ?_⟩⟩⟩
        obtain ⟨z1, z2, z3⟩ := two_new (zs := [.ref q1, .ref q2]) h1 h2 h3
        have nq3 : q3 ≠ d := Ne.symm (dH (dS hd21 ((Same.new h1 _).trans (Same.new h2 _))) h3)
        refine ⟨_, rfl, d, 2, rfl, by decide, by decide, dS hd21 z1, fun vo H22 ho0 ho1 g22 hd22 => ?_⟩
        obtain ⟨vc, hvc, evc⟩ := at_someV (xs := [.ref q1, .ref q2]) ho0 ho1
        have gg : SameX [d] H21 H22 := (SameX.of z1).trans g22
        have kk := d_tups hd21 gg
        have k2 := d_tups (dS hd21 z1) g22
        refine ⟨q3, _, _, _, rfl, rfl, SqL.of (g22 _ _ upd_same (by simpa using nq3)), evc, ?_⟩
        have m1 := TrAt.mono kk _ _ ht1'
        have m2 := TrAt.mono kk _ _ ht2'
        simp only [List.mem_cons, List.not_mem_nil, or_false] at hvc
        rcases hvc with rfl | rfl
        · exact fin (.lete x5 t1 t) _ _ _ ⟨q1, v7, v1, v, rfl, k2 _ _ z2, m1, m2⟩ ⟨o5, hok1, hok⟩ (by simp only [Tr.depth]; omega) (by simp only [cost]; omega) gg hd22
        · exact fin (.lete x3 t t1) _ _ _ ⟨q2, v7, v, v1, rfl, k2 _ _ z3, m2, m1⟩ ⟨o3, hok, hok1⟩ (by simp only [Tr.depth]; omega) (by simp only [cost]; omega) gg hd22
      refine ⟨_, rfl, rfl, _, rfl, ite2 (fun c => ?_) (fun c => ?_)⟩
      · refine ⟨_, rfl, _, rfl, _, rfl, _, rfl, N, _, _, _, rfl, rfl, SqL.of hN21, rfl, _, rfl, _, rfl, d, 2, rfl, by decide, by decide, hd21, fun vo H22 ho0 ho1 g22 hd22 => ?_⟩
        obtain ⟨xt, hxt, ext⟩ := at_some (f := V.str) (xs := [x0, x1, x2, x3, x4, x5, x6]) (v := 6 - 2 * vo) (by omega) (by simp; omega)
        refine ⟨_, _, rfl, rfl, .inl ⟨by decide, by decide⟩, _, _, rfl, rfl, N, _, _, _, rfl, rfl, SqL.of (g22 _ _ hN21 (by simpa using ndN)), ext, _, rfl, by show 7 ≤ sizeLine; decide, fun q1 h1 => ?_⟩
        have gg : SameX [d] H21 (upd H22 q1 (.tup [.str "case", v7, v1, v, .str x5, .str xt, v1])) := g22.trans (SameX.new h1 _)
        have kk := d_tups hd21 gg
        have m1 := TrAt.mono kk _ _ ht1'
        have m2 := TrAt.mono kk _ _ ht2'
        exact fin (.case t1 t x5 xt t1) _ _ _ ⟨q1, v7, v1, v, v1, rfl, upd_same, m1, m2, m1⟩ ⟨o5, hnok _ hxt, hok1, hok, hok1⟩ (by simp only [Tr.depth]; omega) (by simp only [cost]; omega) gg (dS hd22 (Same.new h1 _))
      · refine ⟨_, rfl, _, rfl, _, rfl, _, rfl, _, _, rfl, rfl, d, _, rfl, by omega, by omega, hd21, fun vo H22 ho0 ho1 g22 hd22 => ?_⟩
        obtain ⟨xt, hxt, ext⟩ := at_some (f := V.str) (xs := [x0, x1, x2, x3, x4, x5, x6]) (v := vo) ho0 (by simp; omega)
        refine ⟨N, _, _, _, rfl, rfl, SqL.of (g22 _ _ hN21 (by simpa using ndN)), ext, _, rfl, _, rfl, by show 2 ≤ sizeLine; decide, fun q1 h1 => ⟨by show 4 ≤ sizeLine; decide, fun q2 h2 => ?_⟩⟩
        have z2 : upd (upd H22 q1 (.tup [v, v1])) q2 (.tup [.str "use", v7, .str xt, .ref q1]) q1 = some (.tup [v, v1]) := (Same.new h2 _) _ _ upd_same
        have zz := (Same.new h1 (.tup [v, v1])).trans (Same.new h2 (.tup [.str "use", v7, .str xt, .ref q1]))
        have gg : SameX [d] H21 (upd (upd H22 q1 (.tup [v, v1])) q2 (.tup [.str "use", v7, .str xt, .ref q1])) := g22.trans (SameX.of zz)
        have kk := d_tups hd21 gg
        have m1 := TrAt.mono kk _ _ ht1'
        have m2 := TrAt.mono kk _ _ ht2'
        exact fin (.use2 xt t t1) _ _ _ ⟨q2, v7, q1, v, v1, rfl, upd_same, z2, m2, m1⟩ ⟨hnok _ hxt, hok, hok1⟩ (by simp only [Tr.depth]; omega) (by simp only [cost]; omega) gg (dS hd22 zz)
    · rintro σ H11 ⟨t, v, w6, w7, w8, w9, w10, w11, rfl, ht, hok, hdep, hcost, g11, hd11⟩
      have gA : SameX [d] H4 H11 := g4x.trans g11
      have hN11 := gA _ _ hN4 (by simpa using ndN)
      have hL11 := gA _ _ hL4 (by simpa using ndL)
      have hpp11 : H11 pp = some (.tup [.str x3, .str x4]) := g11 _ _ (g10 _ _ hpp9 (by simpa using npp)) (by simpa using npp)
      obtain ⟨xk, hxk, exk⟩ := at_some (f := V.str) (xs := [x0, x1, x2, x3, x4, x5, x6]) (v := (0 : Int) + ((k : Nat) : Int)) (by omega) (by simp; omega)
      refine ⟨_, rfl, .inl ⟨rfl, _, SqL.of hL11⟩, _, rfl, by show 2 ≤ sizeLine; decide, fun q1 h1 => ?_⟩
      have z1 := Same.new h1 (.tup [.int (0 + (k : Nat)), .int 99])
      refine ⟨_, rfl, _, rfl, N, _, _, _, rfl, rfl, SqL.of (z1 _ _ hN11), exk, _, rfl, _, rfl, by show 5 ≤ sizeLine; decide, fun q2 h2 => ?_⟩
      have z2 := z1.trans (Same.new h2 (.tup [.str "def", .ref q1, .str xk, .ref pp, v]))
      have hq2 := upd_same (H := upd H11 q1 (.tup [.int (0 + (k : Nat)), .int 99])) (a := q2) (o := .tup [.str "def", .ref q1, .str xk, .ref pp, v])
      generalize upd (upd H11 q1 (.tup [.int (0 + (k : Nat)), .int 99])) q2 (.tup [.str "def", .ref q1, .str xk, .ref pp, v]) = H12 at z2 hq2 ⊢
      have hL12 := z2 _ _ hL11
      refine ⟨L, ds, _, rfl, rfl, hL12, by rw [sizeLine_eq]; omega, ds ++ [.ref q2], _, _, _, _, _, _, _, _, _, rfl, ?_, upd_same, by simp [hlen], ?_, ?_, ?_⟩
      · rw [upd_ne (ne_of hN11 hL11 (by
          intro e
          have e : ([x0, x1, x2, x3, x4, x5, x6].map V.str) = ds := by injection e
          have := congrArg List.length e
          simp only [List.length_map, List.length_cons, List.length_nil] at this
          omega))]
        exact z2 _ _ hN11
      · have kL : Tups H12 (upd H12 L (.lst (ds ++ [.ref q2]))) := (SameX.put (ex := [L]) (by simp) _).tups (by
          intro a3 ha3 xs3 e3
          simp only [List.mem_cons, List.not_mem_nil, or_false] at ha3
          subst ha3
          rw [hL12] at e3
          cases e3)
        have kA : Tups H4 H12 := Tups.trans (d_tups hd4 gA) (Same.tups z2)
        intro v2 hv2
        rcases List.mem_append.mp hv2 with h3 | h3
        · exact (hds v2 h3).mono (Tups.trans kA kL)
        · rw [List.mem_singleton.mp h3]
          exact ⟨q2, .ref q1, xk, pp, x3, x4, v, t, rfl, kL _ _ hq2, kL _ _ (z2 _ _ hpp11), hnok _ hxk, o3, o4, TrAt.mono (Tups.trans (Same.tups z2) kL) _ _ ht, hok, by omega, by omega⟩
      · exact ((g4.trans gA).trans (SameX.of z2)).trail hL0 _
      · obtain ⟨a, b, e, h3⟩ := dS hd11 z2
        exact ⟨a, b, by rw [upd_ne (Ne.symm ndL)]; exact e, h3⟩
  · rintro σ H4 ⟨ds, v3, v4, v5, v6, v7, v8, v9, v10, v11, rfl, hN4, hL4, hlen, hds, g4, hd4⟩
    refine ⟨_, rfl, L, _, rfl, .inl ⟨SqL.of hL4, fun q1 h1 => ?_⟩⟩
    have z1 := Same.new h1 (.tup ds)
    refine ⟨_, rfl, L, rfl, ⟨_, SqL.of (z1 _ _ hL4)⟩, fun q2 h2 => ?_⟩
    have h20 : H4 q2 = none := (SameX.of (ex := []) z1).none h2 (by simp)
    refine lc_list (xs := ds) (fun i H' => SameX [] H4 H' ∧ H' q1 = some (.tup ds) ∧ ∃ acc, H' q2 = some (.lst acc) ∧ acc.length = i) ⟨(SameX.of z1).trail h20 _, (Same.new h2 _) _ _ upd_same, [], upd_same, rfl⟩ (fun i H' _ e => SqL.of (e.1 _ _ hL4 (by simp))) ?_ ?_
    · rintro i xv H5 hxv ⟨e1, e2, acc, e3, e4⟩
      obtain ⟨T, q0, nm, pa, a, b, tv, t, rfl, hT, _⟩ := hds xv (List.mem_of_getElem? hxv)
      refine ⟨rfl, ?_⟩
      dsimp only [tYes]
      rw [if_pos rfl]
      have hi : i < ds.length := by
        by_cases hi : i < ds.length
        · exact hi
        · rw [List.getElem?_eq_none (by omega)] at hxv; cases hxv
      refine ⟨_, rfl, T, _, _, _, rfl, rfl, SqT.of (e1 _ _ hT (by simp)), rfl, by show 2 ≤ sizeLine; decide, fun r1 k1 => ⟨by show 3 ≤ sizeLine; decide, fun r2 k2 => ?_⟩⟩
      have zz := (Same.new k1 (.lst [.str "n", .str "l"])).trans (Same.new k2 (.tup [.str nm, .ref r1, .str "n"]))
      refine ⟨acc, zz _ _ e3, by rw [sizeLine_eq]; omega, (e1.trans (SameX.of zz)).trail h20 _, ?_, _, upd_same, by simp [e4]⟩
      rw [upd_ne (ne_of e2 e3 (by intro e; cases e))]
      exact zz _ _ e2
    · rintro H5 ⟨e1, e2, acc, e3, e4⟩
      refine ⟨by show 2 ≤ sizeLine; decide, fun q3 h3 => ?_⟩
      have e1' := e1.same
      have zz := e1'.trans (Same.new h3 (.tup [.ref q1, .ref q2]))
      have hl3 : ds.length ≤ 3 := by omega
      exact q q3 q1 _ ds _ (g4.trans (SameX.of zz)) (dS hd4 zz) upd_same ((Same.new h3 _) _ _ e2) hl3 (fun v2 hv2 => (hds v2 hv2).mono (Same.tups zz))
end
end TP
set_option maxRecDepth 100000
set_option maxHeartbeats 4000000
/-! enumerate over a tuple -/
namespace PySem
open Sem (wp)
theorem tp_meets_enum {v : Value} {o : Obj} {H : Heap → Prop} (B : Begins v o H) :
    Meets (Builtin.«enumerate.__new__» ⟨[.type "enumerate", v], []⟩) (fun _ R s => H s.heap ∧
      R (.ok (.ret (.ref (s.heap.push o).objs.size))) { s with heap := (s.heap.push o).push { cls := .type "enumerate", data := .fields #[.none, .bool false, .ref s.heap.objs.size, rawInt 0, .none, .none] } }) :=
  .of_wp fun prog w A R s h => by
    obtain ⟨hp, g, d, tk, os⟩ := s; obtain ⟨h1, h⟩ := h
    have hsub := sub_enumerate
    have q1 : ∀ {A' : Around} {E : Value → Shared → Prop} {Q : Value → Shared → Prop}, Q (.ref hp.objs.size) ⟨hp.push o, g, d, tk, os⟩ → wpAny (model prog w) A' (pyIter v) Q E ⟨hp, g, d, tk, os⟩ :=
      fun q => B.iter prog w _ _ ⟨hp, g, d, tk, os⟩ _ h1 q
    wp_walk using q1
    refine wpAny_stack_any fun st => wpAny_pure ?_
    split
    · rename_i c _ _ _ _ _
      cases (c == Value.type "enumerate")
      · wp_walk using q1
        exact ⟨_, rfl, h⟩
      · wp_walk using q1
        exact ⟨_, rfl, h⟩
    · wp_walk using q1
      exact ⟨_, rfl, h⟩
theorem tp_call_enum {prog : Program} {w : World} {A : Around} {E : Value → Shared → Prop} {s : Shared} {v : Value} {o : Obj} {H : Heap → Prop} {Q : Value → Shared → Prop} (B : Begins v o H) (h1 : H s.heap)
    (h : ∀ h', IsEnum h' (s.heap.objs.size + 1) s.heap.objs.size 0 .none → h'.get? s.heap.objs.size = some o → h'.objs.size = s.heap.objs.size + 2 →
      (∀ b o, s.heap.get? b = some o → h'.get? b = some o) → Q (.ref (s.heap.objs.size + 1)) { s with heap := h' }) :
    wpAny (model prog w) A (call (.type "enumerate") [v]) Q E s := by
  refine callType_new F.called_enumerate (by decide) (F.typeCall_enumerate_1 _) (F.newCall_enumerate_1 _) (fun obj => F.args_object_init_2 obj _) F.entry_enumerate_new
    (tp_meets_enum B) ⟨h1, ?_⟩
  have hz : (s.heap.push o).objs.size = s.heap.objs.size + 1 := Heap.size_push ..
  show _ ∧ _
  rw [hz]
  have he : IsEnum ((s.heap.push o).push { cls := .type "enumerate", data := .fields #[.none, .bool false, .ref s.heap.objs.size, rawInt 0, .none, .none] }) (s.heap.objs.size + 1) s.heap.objs.size 0 .none := by
    have := Heap.get?_push_size (s.heap.push o) (o := { cls := .type "enumerate", data := .fields #[.none, .bool false, .ref s.heap.objs.size, rawInt 0, .none, .none] }) rfl
    rw [hz] at this; exact this
  refine ⟨⟨_, he, rfl⟩, h _ he (Heap.get?_push_of_some _ (Heap.get?_push_size _ B.free)) (by rw [Heap.size_push, hz]) fun b o x => Heap.get?_push_of_some _ (Heap.get?_push_of_some _ x)⟩
end PySem
namespace TP
open PySem L2 PySem.Spec PyProof.Rows
def Iett (K : PySem.W.Frag) (a : Addr) : It :=
  ⟨fun i H => ∃ (xs : List V) (x : V), SqT K H a xs ∧ xs[i]? = some x, fun i H v H' => ∃ T x, v = .ref T ∧ H T = none ∧ H' = upd H T (.tup [.int (i : Nat), x]) ∧ ∀ xs, SqT K H a xs → xs[i]? = some x, fun i H => ∃ xs : List V, SqT K H a xs ∧ xs.length = i⟩
theorem turn_enumT {P : Program} {w : World} {K : PySem.W.Frag} {elts : List Expr} {kk : Nat} {tpos : Pos} (a e it : Addr) :
    Turn P w K (.Tuple elts kk tpos) (Iett K a) [e, it] e (fun i h => (∃ old, IsEnum h e it ((i : Nat) : Int) old) ∧ h.IsTupleIter it a i ∧ e ≠ it) where
  mem := by simp
  obj := fun i h st b hb => by
    obtain ⟨⟨old, he⟩, ⟨o, ho, hc, hd⟩, _⟩ := st
    have e' : b = e ∨ b = it := by simpa using hb
    rcases e' with z | z
    · rw [z]; exact ⟨_, he, fun v q => nomatch q⟩
    · rw [z]; exact ⟨o, ho, fun v q => by rw [hd] at q; cases q⟩
  keep := fun i h h' st k => let ⟨⟨old, he⟩, hi, hne⟩ := st; ⟨⟨old, k e (by simp) _ he⟩, hi.at fun o q => k it (by simp) o q, hne⟩
  item := by
    intro X hP hw hK hc i pins s σ H E I hf st hg
    subst hP hw hK
    obtain ⟨⟨old, he⟩, hit, hne⟩ := st
    obtain ⟨xs, x, hq, hx⟩ := hg
    obtain ⟨its, rv, p, hz⟩ := I.tuple hq
    obtain ⟨u, hu, ru⟩ := rv.get hx
    have hel : e < s.heap.objs.size := Heap.lt_size he
    have hil : it < s.heap.objs.size := by obtain ⟨_, q, _⟩ := hit; exact Heap.lt_size q
    have p' : s.heap.IsTuple a its.toArray := p
    have hae : a ≠ e := by
      intro z
      obtain ⟨o, q1, q2, q3, q4⟩ := p'
      rw [z] at q1
      have he' : s.heap.get? e = _ := he
      rw [he'] at q1
      cases q1
      cases q4
    have hai : a ≠ it := by
      intro z
      obtain ⟨o, q1, q2, q3, q4⟩ := p'
      obtain ⟨o2, r1, r2, r3⟩ := hit
      rw [z] at q1
      rw [r1] at q1
      cases q1
      rw [r3] at q4
      cases q4
    have D := Draws.tuple (prog := X.prog) (w := X.w) (A := X.A.in1) (I.ok.hd hc) it a hai its.toArray
    have hlt : i < its.toArray.size := by
      by_cases hlt : i < its.toArray.size
      · exact hlt
      · rw [List.getElem?_eq_none (by simpa using hlt)] at hu; cases hu
    refine wpAny_pyNext_enum_itemD D he ⟨hit, p'⟩ hlt hne (by simp; exact ⟨hne, Ne.symm hae⟩) fun x' h' tk hx' ho hit' hT hsz hk => ?_
    have eu : x' = u := by
      have h1 : its.toArray[i]? = some u := by simpa using hu
      have h2 : its.toArray[i]? = some x' := hx'
      rw [h1] at h2
      exact (Option.some.inj h2).symm
    subst eu
    refine ⟨_, rfl, wpAny_letOwnedTupleGo_enum (s := { s with heap := h', toks := tk + 1 }) ho fun h'' he' sb => ?_⟩
    have hT2 : h''.get? s.heap.objs.size = some { cls := .type "tuple", data := .seq #[.int i tk, x'] } := (sb.2 _ (Nat.ne_of_gt hel)).trans hT
    have new : ObjOk X.prog X.w (upd H s.heap.objs.size (.tup [.int (i : Nat), x])) h'' s.heap.objs.size (.tup [.int (i : Nat), x]) :=
      ⟨by show 2 ≤ sizeLine; decide, [.int i tk, x'], .cons ⟨_, rfl⟩ (.cons ru .nil), ⟨_, hT2, rfl, _, rfl⟩⟩
    have I1 : Inv X pins σ (upd H s.heap.objs.size (.tup [.int (i : Nat), x])) { s with heap := h'', toks := tk + 1 } :=
      I.turnedNew (ch := [e, it]) (fun b ob hb q => (sb.2 b (fun z => hb (by simp [z]))).trans (hk b ob (fun z => hb (by simp [z])) (fun z => hb (by simp [z])) q)) hf (Nat.le_refl _) new
    refine ⟨.ref s.heap.objs.size, _, I1, rfl, ⟨_, x, rfl, I.hok.fresh (Nat.le_refl _), rfl, fun ys hy => by rw [I.tuple_inj hy hq]; exact hx⟩, ⟨⟨x', ?_⟩, hit'.1.at fun o q => (sb.2 it (Ne.symm hne)).trans q, hne⟩, fun b hb => ?_⟩
    · have e1 : ((i + 1 : Nat) : Int) = (i : Int) + 1 := by omega
      rw [e1]; exact he'
    · have hb' : b < s.heap.objs.size := by
        have e' : b = e ∨ b = it := by simpa using hb
        rcases e' with z | z
        · rw [z]; exact hel
        · rw [z]; exact hil
      rw [upd_ne (Nat.ne_of_lt hb')]
      exact (hf b hb).1
  done := by
    intro X hP hw hK hc i pins s σ H E I hf st hg
    subst hP hw hK
    obtain ⟨⟨old, he⟩, hit, hne⟩ := st
    obtain ⟨xs, hq, hx⟩ := hg
    obtain ⟨its, rv, p, hz⟩ := I.tuple hq
    obtain ⟨f0, f1, f2, f3, f4, f5⟩ := hf it (by simp)
    have hl := rv.length
    have p' : s.heap.IsTuple a its.toArray := p
    have hae : a ≠ it := by
      intro z
      obtain ⟨o, q1, q2, q3, q4⟩ := p'
      obtain ⟨o2, r1, r2, r3⟩ := hit
      rw [z] at q1
      rw [r1] at q1
      cases q1
      rw [r3] at q4
      cases q4
    have D := Draws.tuple (prog := X.prog) (w := X.w) (A := X.A.in1) (I.ok.hd hc) it a hae its.toArray
    have ei : i = its.toArray.size := by simp; omega
    subst ei
    exact wpAny_pyNext_enum_endD D he ⟨hit, p'⟩ fun h' eb => ⟨rfl, I.turned (t' := s.toks) (fun b o hb q => eb b o hb q) f0 f1 f3 f4 f5⟩
  self := fun A i s Q E st h => let ⟨⟨_, he⟩, _⟩ := st; wpAny_pyIter_enum he h
theorem walk_enumT {K : PySem.W.Frag} {a : Addr} {xs : List V} : Walk (Iett K a) xs.length (fun H => SqT K H a xs) (YPair (fun i => some (.int (i : Nat))) (fun i => xs[i]?)) := by
  refine ⟨fun i _ hi q => ⟨xs, xs[i], q, by simp [hi]⟩, fun _ q => ⟨xs, q, rfl⟩, fun i H v H' _ q y => ?_⟩
  obtain ⟨T, x, h1, h2, h3, h4⟩ := y
  exact ⟨T, .int (i : Nat), x, h1, h2, h3, rfl, h4 xs q⟩
def iEnumT (K : PySem.W.Frag) (ta : TA) : TI := fun σ H R => ta σ H fun vs H1 => ∃ a xs, vs = [.ref a] ∧ SqT K H1 a xs ∧ R (Iett K a) H1
theorem pi_enumT {X : Cx} {e : Expr} {ta : TA} {p pos tpos : Pos} {elts : List Expr} {kk : Nat} (hg : Gl X "enumerate") (hm : X.mg "enumerate" = none) (ha : PA X [e] ta) (hs : starEach [e] X.env = [(false, eval e X.env)] := by rfl) :
    PI X (.Tuple elts kk tpos) (.Call (.Name "enumerate" p) [e] [] pos) (iEnumT X.K ta) := by
  refine ⟨fun pins s σ H R I h => ?_⟩
  refine Call_ (ld_blt I hg hm boot_enumerate (PyProof.Rows.callWith_type1 (thn (ha.run pos pins s σ H _ I h) fun us s1 ⟨vs, H1, I1, r1, q1⟩ => ?_) hs rfl))
  obtain ⟨a, xs, ex, hq, q⟩ := q1
  subst ex
  cases r1 with
  | cons r rr =>
    cases rr
    cases r
    obtain ⟨its, rv, p', hz⟩ := I1.tuple hq
    refine tp_call_enum (begins_tuple a its.toArray) p' fun h' he hit hsz hk => wpAny_pyIter_enum he ?_
    have I2 : Inv X pins σ H1 { s1 with heap := h' } := I1.kept (t' := s1.toks) hk
    refine ⟨s1.heap.objs.size + 1, [s1.heap.objs.size + 1, s1.heap.objs.size], _, _, H1, rfl, I2, turn_enumT a (s1.heap.objs.size + 1) s1.heap.objs.size, ⟨⟨.none, he⟩, ⟨_, hit, rfl, rfl⟩, Nat.succ_ne_self _⟩, fun b hb => ?_, q⟩
    have e' : b = s1.heap.objs.size + 1 ∨ b = s1.heap.objs.size := by simpa using hb
    have hle : s1.heap.objs.size ≤ b := by
      rcases e' with z | z
      · rw [z]; exact Nat.le_add_right _ _
      · rw [z]; exact Nat.le_refl _
    exact I1.fpOk hle (I1.hok.fresh hle)
end TP
set_option maxRecDepth 100000
set_option maxHeartbeats 4000000
namespace TP
open PySem L2
/-! ### the whole text -/
structure FA (H : Hp) (d p : Addr) (z : Str) (line : Int) (c n : Nat) : Prop where
  dr : DrAt H d
  pn : PenH H p z line (c : Nat) false
  pf : PenF (tl z) line (c : Nat) [((c : Nat) : Int)]
  sz : Sz n z (c : Nat)
def spWritten : Sp := fun vs H Q _ => ∃ (d pt : Addr) (ds : List V), vs = [.ref d, .ref pt] ∧ DrAt H d ∧ H pt = some (.tup ds) ∧ ds.length ≤ 3 ∧ (∀ v ∈ ds, DefAt H v) ∧
  ∀ (z : Str) (p : Addr) (v : V) (H' : Hp), (∃ fs, laidF (tl z) = some fs) → z.length ≤ 4000000 → SameX [d] H H' → DrAt H' d → H' p = some (.tup [.str z, v]) → Q (.ref p) H'
abbrev nWr : List Str := ["draws", "program", "column", "pen", "found", "k", "word", "place", "name", "params", "body", "param"]
theorem laid_PenF {t : List Nat} {line col : Int} {S : List Int} (h : PenF t line col S) : ∃ st ah r, PenB t line col st ah r := by
  obtain ⟨ah, st, r, hB, _⟩ := h
  exact ⟨_, _, _, hB⟩
theorem laid_PenU {t : List Nat} {line col : Int} {S : List Int} {op : Bool} {x : Nat} (h : PenU t line col S op x) : ∃ st ah r, PenB t line col st ah r := by
  obtain ⟨a, r, hB, _⟩ := h
  exact ⟨_, _, _, hB⟩
theorem SameX.drop {ex ex0 : List Addr} {H H' : Hp} (g : SameX ex H H') (h : ∀ a ∈ ex, a ∈ ex0 ∨ H a = Option.none) : SameX ex0 H H' := fun b o e n => g b o e fun hb => (h b hb).elim n fun z => by rw [e] at z; cases z
section
variable {H : Hp} {d p : Addr} {z : Str} {line col : Int} {x n : Nat}
theorem line_item {ex : List Int} {c : Nat} {Q : VK} {E : XK} (u : WU H d p z line col (ex ++ [((c : Nat) : Int)]) false x n) (hex : ∀ e ∈ ex, ((c : Nat) : Int) < e) (hc : c ≤ 3) (hn : n + 1 ≤ 400)
    (h : ∀ (z' : Str) (line' : Int) (H' : Hp), FA H' d p z' line' c (n + 1) → SameX [d, p] H H' → Q .non H') : spLine [.ref d, .ref p, .int (c : Nat)] H Q E := by
  obtain ⟨a, r, hB, hal, hao, _, _⟩ := u.pu
  have hz := u.sz.zl
  have hn2 := u.sz.nle
  refine ⟨d, p, z, line, col, false, _, some a, r, c, rfl, u.dr, u.pn, hB, by omega, by omega, fun z' line' H' hl hL g hd' hp' => h z' line' H' ⟨hd', hp', Lined.item hL (by omega) hao hex (Int.le_refl _), ⟨hn, by omega, by omega, by omega⟩⟩ g⟩
end
section
variable {P : Program} {w : World} {K : PySem.W.Frag} {mg : Str → Option Value} {base : Heap}
theorem scWritten : FnScope nWr ["draws", "program"] (defScope sWritten) := ⟨rfl, rfl, rfl, by decide +kernel, rfl, by decide +kernel, by decide +kernel⟩
theorem ok_written {kW : Nat} (hkW : 3 ≤ kW) {f fD fL fWd fW : Addr} {fd fdD fdL fdWd fdW : FuncData} (F : Fun K "_law_written" "_law_written" sWritten f fd) (DD : Df K mg "_law_draw" sDraw fD fdD ["draws", "many"])
    (DL : Df K mg "_law_line" sLine fL fdL ["draws", "pen", "column"]) (GL : FnOk P w K mg base CX0 2 fL fdL ["draws", "pen", "column"] spLine)
    (DWd : Df K mg "_law_word" sWord fWd fdWd ["draws", "pen", "word", "least", "free"]) (GWd : FnOk P w K mg base CX0 3 fWd fdWd ["draws", "pen", "word", "least", "free"] spWord)
    (DW : Df K mg "_law_write" sWrite fW fdW pW6) (GW : FnOk P w K mg base CX0 kW fW fdW pW6 (spWrite 6)) (me : mg "enumerate" = none) (mt : mg "tuple" = none) : FnOk P w K mg base CX0 (kW + 1) f fd ["draws", "program"] spWritten := by
  have GD : Draw P w K mg base fD fdD := ok_draw DD.F
  refine F.ok scWritten (fun vs H Q E h => ?_) (fun cdv A outer s H vs Q E hr h => ?_)
  · obtain ⟨d, pt, ds, rfl, _⟩ := h
    rfl
  obtain ⟨d, pt, ds, rfl, hd, hpt, hl3, hds, q⟩ := h
  have hr1 : Room 1 _ := hr.mono (by omega)
  have hr2 : Room 2 _ := hr.mono (by omega)
  have hr3 : Room 3 _ := hr.mono (by omega)
  refine ⟨_, (pss_cons (ps_set (i := 2) scWritten.nd rfl (Or.inl rfl) (pe_ix ix_list (pe_lst (pa_cons pe_int (pa_cons pe_int (pa_cons pe_int (pa_cons pe_int pa_nil))))) (pe_call GD hr1 rfl DD.g DD.F.kp DD.b .nil pass0 (pa_cons (pv 0) (pa_cons pe_int pa_nil))) (fun _ _ => rfl)))
    (pss_cons (ps_set (i := 3) scWritten.nd rfl (Or.inl rfl) (pe_lst (pa_cons pe_str (pa_cons pe_int (pa_cons pe_int (pa_cons pe_bl pa_nil))))))
    (pss_cons (ps_set (i := 4) scWritten.nd rfl (Or.inl rfl) (pe_lst pa_nil))
    (C8.pss_cut (ps_if (PW.pt (pw_or (pt_cmpR op_gt (pv 2) pe_int (nomark _)) (pw_or1 (pt_cmpR op_eq (pe_call GD hr1 rfl DD.g DD.F.kp DD.b .nil pass0 (pa_cons (pv 0) (pa_cons pe_int pa_nil))) pe_int (nomark _))))) (pss_one (ps_expr (pe_call GL hr2 rfl DL.g DL.F.kp DL.b .nil pass0 (pa_cons (pv 0) (pa_cons (pv 3) (pa_cons (pv 2) pa_nil)))))) pss_nil)
    (C8.pss_cut (ps_for PassesOwn.never rfl (pi_enumT rfl me (pa_cons (pv 1) pa_nil)) (pg_tup rfl (pgs_cons (pg_name (i := 5) scWritten.nd rfl (Or.inl rfl)) (pgs_cons (pg_tup rfl (pgs_cons (pg_name (i := 6) scWritten.nd rfl (Or.inl rfl)) (pgs_cons (pg_name (i := 7) scWritten.nd rfl (Or.inl rfl)) (pgs_cons (pg_name (i := 8) scWritten.nd rfl (Or.inl rfl)) (pgs_cons (pg_name (i := 9) scWritten.nd rfl (Or.inl rfl)) (pgs_cons (pg_name (i := 10) scWritten.nd rfl (Or.inl rfl)) pgs_nil)))))) pgs_nil))) (C8.pss_cut (ps_if (pt_cmpR op_gt (pv 5) pe_int (nomark _)) (pss_one (ps_expr (pe_call GL hr2 rfl DL.g DL.F.kp DL.b .nil pass0 (pa_cons (pv 0) (pa_cons (pv 3) (pa_cons (pv 2) pa_nil)))))) pss_nil)
    (pss_cons (ps_asg pe_bl (pg_sub (pv 3) pe_int set_list))
    (pss_cons (ps_set (i := 7) scWritten.nd rfl (Or.inl rfl) (pe_call GWd hr3 rfl DWd.g DWd.F.kp DWd.b .nil pass0 (pa_cons (pv 0) (pa_cons (pv 3) (pa_cons (pv 8) (pa_cons (pv 2) (pa_cons pe_bl pa_nil)))))))
    (C8.pss_cut (ps_for PassesOwn.never rfl (pi_tup (pv 9)) (pg_name (i := 11) scWritten.nd rfl (Or.inl rfl)) (pss_one (ps_expr (pe_call GWd hr3 rfl DWd.g DWd.F.kp DWd.b .nil pass0 (pa_cons (pv 0) (pa_cons (pv 3) (pa_cons (pv 11) (pa_cons (pv 2) (pa_cons pe_bl pa_nil)))))))))
    (pss_cons (ps_expr (pe_call GWd hr3 rfl DWd.g DWd.F.kp DWd.b .nil pass0 (pa_cons (pv 0) (pa_cons (pv 3) (pa_cons pe_str (pa_cons (pv 2) (pa_cons pe_bl pa_nil)))))))
    (pss_one (ps_expr (pe_bm PySem.F.plainAttrs_list PySem.F.slot_list_append PySem.F.type_list_append mt_append (pv 4) (pa_cons (pe_tup (pa_cons pe_str (pa_cons (pv 7) (pa_cons (pv 8) (pa_cons (pv 9) (pa_cons (pe_call GW hr rfl DW.g DW.F.kp DW.b .nil pass0 (pa_cons (pv 0) (pa_cons (pv 3) (pa_cons (pv 10) (pa_cons (pv 2) (pa_cons pe_bl (pa_cons pe_int pa_nil))))))) pa_nil)))))) pa_nil))))))))))
    (C8.pss_cut (ps_if (pt_cmpR op_eq (pe_call GD hr1 rfl DD.g DD.F.kp DD.b .nil pass0 (pa_cons (pv 0) (pa_cons pe_int pa_nil))) pe_int (nomark _)) (pss_one (ps_expr (pe_call GL hr2 rfl DL.g DL.F.kp DL.b .nil pass0 (pa_cons (pv 0) (pa_cons (pv 3) (pa_cons (pe_call GD hr1 rfl DD.g DD.F.kp DD.b .nil pass0 (pa_cons (pv 0) (pa_cons pe_int pa_nil))) pa_nil)))))) pss_nil)
    (pss_one (ps_ret (pe_tup (pa_cons (pe_ix ix_list (pv 3) pe_int (fun _ _ => rfl)) (pa_cons (pe_callTy call_tuple_of (by rfl) mt (by decide +kernel) (pa_cons (pv 4) pa_nil)) pa_nil))))))))))), ?_⟩
  have dH : ∀ {H1 : Hp}, DrAt H1 d → ∀ {p : Addr}, H1 p = none → d ≠ p := by
    intro H1 h p hp
    obtain ⟨a, b, e, _⟩ := h
    exact ne_of_none e hp
  have dS : ∀ {H1 H2 : Hp}, DrAt H1 d → Same H1 H2 → DrAt H2 d := fun h g => h.keep (SameX.of g) (ex := []) (by simp)
  refine ⟨by show 4 ≤ sizeLine; decide, fun pC hC => ⟨_, rfl, d, 4, rfl, by decide, by decide, dS hd (Same.new hC _), fun vc H1 hc0 hc1 g1 hd1 => ?_⟩⟩
  obtain ⟨c, hcm, ec⟩ := at_some (f := fun n : Nat => V.int (n : Int)) (xs := [0, 0, 3, 1]) hc0 hc1
  have hc3 : c ≤ 3 := by
    simp only [List.mem_cons, List.not_mem_nil, or_false] at hcm
    omega
  have npC : pC ≠ d := Ne.symm (dH hd hC)
  refine ⟨pC, _, _, _, rfl, rfl, SqL.of (g1 _ _ upd_same (by simpa using npC)), ec, ?_⟩
  have g01 : SameX [d] H H1 := (SameX.new hC _).trans g1
  refine ⟨by show 4 ≤ sizeLine; decide, fun p hp => ?_⟩
  refine ⟨Nat.zero_le _, fun Fa hF => ?_⟩
  have ndp := dH hd1 hp
  have ndF := dH (dS hd1 (Same.new hp _)) hF
  have npF : p ≠ Fa := ne_of_none upd_same hF
  have hF1 : H1 Fa = none := by rw [upd_ne (Ne.symm npF)] at hF; exact hF
  have hp0 : H p = none := g01.none hp (by simpa using Ne.symm ndp)
  have hF0 : H Fa = none := g01.none hF1 (by simpa using Ne.symm ndF)
  have z3 := (Same.new hp (.lst [.str "", .int 0, .int 0, .bl false])).trans (Same.new hF (.lst []))
  have hp3 := (Same.new hF (.lst [])) _ _ (upd_same (H := H1) (a := p) (o := .lst [.str "", .int 0, .int 0, .bl false]))
  have hF3 := upd_same (H := upd H1 p (.lst [.str "", .int 0, .int 0, .bl false])) (a := Fa) (o := .lst [])
  generalize upd (upd H1 p (.lst [.str "", .int 0, .int 0, .bl false])) Fa (.lst []) = H3 at z3 hp3 hF3 ⊢
  have hd3 := dS hd1 z3
  have g03 : SameX [d, p, Fa] H H3 := (g01.mono (by simp)).trans (SameX.of z3)
  have tup0 : ∀ {H' : Hp}, SameX [d, p, Fa] H H' → Tups H H' := fun g => g.tups (by
    intro a ha xs e
    simp only [List.mem_cons, List.not_mem_nil, or_false] at ha
    rcases ha with rfl | rfl | rfl
    · obtain ⟨a, b, e2, _⟩ := hd
      rw [e] at e2
      cases e2
    · rw [e] at hp0; cases hp0
    · rw [e] at hF0; cases hF0)
  have dpF : ∀ {H1 H2 : Hp}, SameX [d, p] H1 H2 → SameX [d, p, Fa] H1 H2 := fun g => g.mono (by simp)
  have nFdp : Fa ∉ [d, p] := by simp; exact ⟨Ne.symm ndF, Ne.symm npF⟩
  have e0 : tl ("" : Str) = [] := by decide +kernel
  have l0 : ("" : Str).length = 0 := by decide +kernel
  -- the first line
  refine ⟨fun σ H' => ∃ (z : Str) (line : Int), σ = [some (.ref d), some (.ref pt), some (.int (c : Nat)), some (.ref p), some (.ref Fa), none, none, none, none, none, none, none] ∧ FA H' d p z line c 1 ∧ H' Fa = some (.lst []) ∧ SameX [d, p, Fa] H H', ?_, ?_⟩
  · have lineGo : ∀ H4, SameX [d] H3 H4 → DrAt H4 d → (tDrop (tCall spLine [] E0 (tCons (tVar 0) (tCons (tVar 3) (tCons (tVar 2) tNil))))) { nx := fun σ H' => ∃ (z : Str) (line : Int), σ = [some (.ref d), some (.ref pt), some (.int (c : Nat)), some (.ref p), some (.ref Fa), none, none, none, none, none, none, none] ∧ FA H' d p z line c 1 ∧ H' Fa = some (.lst []) ∧ SameX [d, p, Fa] H H', rt := Q }
        [some (.ref d), some (.ref pt), some (.int (c : Nat)), some (.ref p), some (.ref Fa), none, none, none, none, none, none, none] H4 := by
      intro H4 g4 hd4
      have hp4 := g4 _ _ hp3 (by simpa using Ne.symm ndp)
      have hF4 := g4 _ _ hF3 (by simpa using Ne.symm ndF)
      refine ⟨_, rfl, _, rfl, _, rfl, nil_go ⟨d, p, "", 0, 0, false, [], none, [], c, rfl, hd4, hp4, by rw [e0]; exact PenB.start, by omega, by rw [l0]; omega, fun z' line' H' hz hL g hd' hp' => ?_⟩⟩
      rw [e0] at hL
      exact ⟨z', line', rfl, ⟨hd', hp', Lined.first hL, ⟨by omega, by omega, by omega, by omega⟩⟩, g _ _ hF4 nFdp, (g03.trans (g4.mono (by simp))).trans (dpF g)⟩
    refine ⟨_, rfl, _, _, rfl, rfl, _, rfl, ite2 (fun c1 => ?_) (fun c1 => ?_)⟩
    · exact iteT (lineGo H3 (SameX.refl _ _) hd3)
    · have hc0 : c = 0 := by
        have c2 : ¬ (0 : Int) < ((c : Nat) : Int) := fun h => c1 (decide_eq_true h)
        omega
      refine ⟨_, rfl, d, 4, rfl, by decide, by decide, hd3, fun v4 H4 _ _ g4 hd4 => ⟨rfl, _, rfl, ite2 (fun c2 => ?_) (fun c2 => ?_)⟩⟩
      · exact lineGo H4 g4 hd4
      · have hp4 := g4 _ _ hp3 (by simpa using Ne.symm ndp)
        refine ⟨"", 0, rfl, ⟨hd4, by rw [hc0]; exact hp4, by rw [hc0, e0]; exact PenF.first, ⟨by omega, by omega, by omega, by rw [l0]; omega⟩⟩, g4 _ _ hF3 (by simpa using Ne.symm ndF), g03.trans (g4.mono (by simp))⟩
  rintro σ H4 ⟨z, line, rfl, f4, hF4, g4⟩
  have tpc : Top [((c : Nat) : Int)] ((c : Nat) : Int) false := Top.self (S := []) (by simp)
  -- the defs
  refine ⟨fun σ H' => ∃ (z : Str) (n : Nat) (line : Int) (col : V) (fs : List V) (v5 v6 v7 v8 v9 v10 v11 : Option V), σ = [some (.ref d), some (.ref pt), some (.int (c : Nat)), some (.ref p), some (.ref Fa), v5, v6, v7, v8, v9, v10, v11] ∧ DrAt H' d ∧ (∃ (col : Int) (st : List Int) (ah : Option Mrk) (r : List Nat), PenH H' p z line col false ∧ PenB (tl z) line col st ah r) ∧ z.length ≤ 3500000 ∧
    H' Fa = some (.lst fs) ∧ SameX [d, p, Fa] H H', ?_, ?_⟩
  · refine ⟨_, rfl, pt, ds, rfl, SqT.of (tup0 g4 _ _ hpt), for_it (walk_enumT (K := K) (a := pt) (xs := ds)) (fun i σ H' => ∃ (z : Str) (line : Int) (n : Nat) (fs : List V) (v5 v6 v7 v8 v9 v10 v11 : Option V), σ = [some (.ref d), some (.ref pt), some (.int (c : Nat)), some (.ref p), some (.ref Fa), v5, v6, v7, v8, v9, v10, v11] ∧
        H' Fa = some (.lst fs) ∧ fs.length = i ∧ SameX [d, p, Fa] H H' ∧ n ≤ 1 + 100 * i ∧ ((i = 0 ∧ FA H' d p z line c n) ∨ (0 < i ∧ ∃ (col : Int) (ex : List Int) (x : Nat), WU H' d p z line col (ex ++ [((c : Nat) : Int)]) false x n ∧ ∀ e ∈ ex, ((c : Nat) : Int) < e)))
      ⟨z, line, 1, [], none, none, none, none, none, none, none, rfl, hF4, rfl, g4, by omega, .inl ⟨rfl, f4⟩⟩ (fun i σ H' _ e => ?_) ?_ ?_⟩
    · obtain ⟨z, line, n, fs, v5, v6, v7, v8, v9, v10, v11, _, _, _, e, _⟩ := e
      exact SqT.of (tup0 e _ _ hpt)
    · rintro i xv σ H5 H6 hi ⟨z, line, n, fs, v5, v6, v7, v8, v9, v10, v11, rfl, hF5, hlen, g5, hn, alt⟩ ⟨T, y1, y2, rfl, hT, rfl, ey1, ey2⟩
      have ey1 : V.int (i : Nat) = y1 := Option.some.inj ey1
      subst ey1
      have ey2 : ds[i]? = some y2 := ey2
      obtain ⟨T2, q0, nm, pa, a, b, tv, t, rfl, hT2, hpa, onm, oa, ob, htr, hok, hdep, hco⟩ := hds y2 (List.mem_of_getElem? ey2)
      have k6 : Tups H (upd H5 T (.tup [.int (i : Nat), .ref T2])) := Tups.trans (tup0 g5) (Tups.of_put hT)
      have g6 : SameX [d, p, Fa] H (upd H5 T (.tup [.int (i : Nat), .ref T2])) := g5.trans (SameX.new hT _)
      have hF6 := (Same.new hT (.tup [.int (i : Nat), .ref T2])) _ _ hF5
      refine ⟨T, _, rfl, SqT.of upd_same, rfl, _, _, rfl, _, _, rfl, T2, _, rfl, SqT.of (k6 _ _ hT2), rfl, _, _, rfl, _, _, rfl, _, _, rfl, _, _, rfl, _, _, rfl, rfl, rfl, ?_⟩
      have hi3 : i < 3 := by omega
      -- a new line
      refine ⟨fun σ H' => ∃ (z : Str) (line : Int) (n : Nat), σ = [some (.ref d), some (.ref pt), some (.int (c : Nat)), some (.ref p), some (.ref Fa), some (.int (i : Nat)), some (.str "def"), some q0, some (.str nm), some (.ref pa), some tv, v11] ∧
          FA H' d p z line c n ∧ n ≤ 2 + 100 * i ∧ H' Fa = some (.lst fs) ∧ SameX [d, p, Fa] H H', ?_, ?_⟩
      · refine ⟨_, rfl, _, _, rfl, rfl, _, rfl, ite2 (fun c1 => ?_) (fun c1 => ?_)⟩
        · have c2 : (0 : Int) < ((i : Nat) : Int) := of_decide_eq_true c1
          rcases alt with ⟨e, _⟩ | ⟨_, col, ex, x, u5, hex⟩
          · omega
          have u6 := u5.grow (Same.new hT (.tup [.int (i : Nat), .ref T2]))
          exact ⟨_, rfl, _, rfl, _, rfl, nil_go (line_item u6 hex hc3 (by omega) fun z' line' H' f' g' => ⟨z', line', n + 1, rfl, f', by omega, g' _ _ hF6 nFdp, g6.trans (dpF g')⟩)⟩
        · have c2 : ¬ (0 : Int) < ((i : Nat) : Int) := fun h => c1 (decide_eq_true h)
          rcases alt with ⟨_, f5⟩ | ⟨e, _⟩
          · exact ⟨z, line, n, rfl, ⟨dS f5.dr (Same.new hT _), (Same.new hT _) _ _ f5.pn, f5.pf, f5.sz⟩, by omega, hF6, g6⟩
          · omega
      rintro σ H7 ⟨z, line, n, rfl, f7, hn7, hF7, g7⟩
      have hp7 : H7 p = some (.lst [.str z, .int line, .int (c : Nat), .bl false]) := f7.pn
      refine ⟨_, rfl, p, _, _, 3, rfl, rfl, hp7, rfl, ?_⟩
      have s8 : SameX [p] H7 (upd H7 p (.lst [.str z, .int line, .int (c : Nat), .bl true])) := SameX.put (by simp) _
      have f8 : WF (upd H7 p (.lst [.str z, .int line, .int (c : Nat), .bl true])) d p z line (c : Nat) [((c : Nat) : Int)] n := ⟨f7.dr.keep s8 (by simpa using ndp), upd_same, f7.pf, f7.sz⟩
      have hF8 := s8 _ _ hF7 (by simpa using Ne.symm npF)
      have g8 : SameX [d, p, Fa] H _ := g7.trans (s8.mono (by simp))
      have nn := f7.sz.c1
      refine ⟨_, rfl, _, rfl, _, rfl, _, rfl, nilc_go (plain_go (f8.ws tpc (by omega) nn) (plain_name onm) (by omega) fun z9 line9 col9 H9 q9 y9 hy9 u9 g9 => ?_)⟩
      have g09 := g8.trans (dpF g9)
      have k9 := tup0 g09
      have h61 : y9 ≠ 61 := name_last onm hy9
      let Pv2 : Nat → L2.St → Hp → Prop := fun j σ H' => ∃ (z : Str) (line col : Int) (x : Nat) (v11 : Option V), σ = [some (.ref d), some (.ref pt), some (.int (c : Nat)), some (.ref p), some (.ref Fa), some (.int (i : Nat)), some (.str "def"), some (.ref q9), some (.str nm), some (.ref pa), some tv, v11] ∧
          WU H' d p z line col [((c : Nat) : Int)] false x (n + 1 + j) ∧ x ≠ 61 ∧ H' Fa = some (.lst fs) ∧ SameX [d, p, Fa] H H'
      refine ⟨Pv2 2, ⟨_, rfl, pa, rfl, ⟨_, SqT.of (k9 _ _ hpa)⟩, for_it (walk_tup (K := K) (a := pa) (xs := ([a, b] : List Str).map V.str)) Pv2 ⟨z9, line9, col9, y9, v11, rfl, u9, h61, g9 _ _ hF8 nFdp, g09⟩ (fun j σ H' _ e => ?_) ?_ (fun σ H' e => e)⟩, ?_⟩
      · obtain ⟨z, line, col, x, v11, _, _, _, _, e⟩ := e
        exact SqT.of (tup0 e _ _ hpa)
      · rintro j xv σ H10 H11 hj ⟨z10, line10, col10, x10, w11, rfl, u10, hx10, hF10, g10⟩ ⟨rfl, hxv⟩
        have hj : j < 2 := hj
        rw [List.getElem?_map] at hxv
        obtain ⟨wd, hwd, rfl⟩ := Option.map_eq_some_iff.mp hxv
        have owd : NameOk wd := by
          have := List.mem_of_getElem? hwd
          simp only [List.mem_cons, List.not_mem_nil, or_false] at this
          rcases this with rfl | rfl
          · exact oa
          · exact ob
        refine ⟨_, rfl, _, rfl, _, rfl, _, rfl, nilc_go (plain_go (u10.ws tpc (by omega) (by omega)) (plain_name owd) (by omega) fun z12 line12 col12 H12 q12 y12 hy12 u12 g12 => ?_)⟩
        exact ⟨z12, line12, col12, y12, _, rfl, u12, name_last owd hy12, g12 _ _ hF10 nFdp, g10.trans (dpF g12)⟩
      rintro σ H10 ⟨z10, line10, col10, x10, w11, rfl, u10, hx10, hF10, g10⟩
      refine ⟨_, rfl, _, rfl, _, rfl, nilc_go (word_go (u10.ws tpc (by omega) (by omega)) w_eq (fun _ => hx10) (brk_sign (by decide +kernel) (by decide +kernel)) (by omega) fun z11 line11 col11 H11 q11 y11 hy11 u11 g11 => ?_)⟩
      rw [op_sign] at u11
      have hF11 := g11 _ _ hF10 nFdp
      have g011 := g10.trans (dpF g11)
      refine ⟨_, rfl, .inl ⟨rfl, _, SqL.of hF11⟩, _, rfl, _, rfl, _, rfl, _, rfl, _, rfl, _, rfl, _, rfl, nilcc_go (write_go (u11.ws tpc (by omega) (by omega)) (TrAt.mono (tup0 g011) _ _ htr) hok hdep (by simp only [List.length_cons, List.length_nil]; omega) (by omega) fun z12 line12 col12 H12 ex12 x12 n12 q12 u12 hx12 hex12 n121 n122 g12 _ => ?_)⟩
      have hF12 := g12 _ _ hF11 nFdp
      have g012 := g011.trans (dpF g12)
      refine ⟨by show 5 ≤ sizeLine; decide, fun pT hT13 => ?_⟩
      have nFT : Fa ≠ pT := ne_of_none hF12 hT13
      refine ⟨Fa, fs, _, rfl, rfl, (Same.new hT13 _) _ _ hF12, by rw [sizeLine_eq]; omega, z12, line12, n12, fs ++ [.ref pT], _, _, _, _, _, _, _, rfl, upd_same, by simp [hlen], (g012.trans (SameX.new hT13 _)).trans (SameX.put (by simp) _), by omega, .inr ⟨by omega, col12, ex12, x12, ?_, hex12⟩⟩
      exact (u12.grow (Same.new hT13 _)).keepX (ex := [Fa]) (SameX.put (by simp) _) (by simpa using ndF) (by simpa using npF)
    · rintro σ H5 ⟨z, line, n, fs, v5, v6, v7, v8, v9, v10, v11, rfl, hF5, hlen, g5, hn, alt⟩
      rcases alt with ⟨_, f5⟩ | ⟨_, col, ex, x, u5, hex⟩
      · obtain ⟨st, ah, r, hB⟩ := laid_PenF f5.pf
        have := f5.sz.zl
        exact ⟨z, n, line, .non, fs, v5, v6, v7, v8, v9, v10, v11, rfl, f5.dr, ⟨_, st, ah, r, f5.pn, hB⟩, by omega, hF5, g5⟩
      · obtain ⟨st, ah, r, hB⟩ := laid_PenU u5.pu
        have := u5.sz.zl
        exact ⟨z, n, line, .non, fs, v5, v6, v7, v8, v9, v10, v11, rfl, u5.dr, ⟨_, st, ah, r, u5.pn, hB⟩, by omega, hF5, g5⟩
  rintro σ H5 ⟨z, n, line, _, fs, v5, v6, v7, v8, v9, v10, v11, rfl, hd5, ⟨col, st, ah, r, hp5, hB5⟩, hz5, hF5, g5⟩
  -- the last line
  refine ⟨fun σ H' => ∃ (z : Str) (x1 x2 x3 : V), σ = [some (.ref d), some (.ref pt), some (.int (c : Nat)), some (.ref p), some (.ref Fa), v5, v6, v7, v8, v9, v10, v11] ∧ DrAt H' d ∧ H' p = some (.lst [.str z, x1, x2, x3]) ∧ (∃ fs, laidF (tl z) = some fs) ∧ z.length ≤ 4000000 ∧ H' Fa = some (.lst fs) ∧ SameX [d, p, Fa] H H', ?_, ?_⟩
  · refine ⟨_, rfl, d, 2, rfl, by decide, by decide, hd5, fun v6' H6 _ _ g6 hd6 => ⟨rfl, _, rfl, ite2 (fun c2 => ?_) (fun c2 => ?_)⟩⟩
    · refine ⟨_, rfl, _, rfl, _, rfl, d, 4, rfl, by decide, by decide, hd6, fun v7' H7 hv0 hv1 g7 hd7 => ?_⟩
      obtain ⟨cn, rfl⟩ : ∃ cn : Nat, v7' = ((cn : Nat) : Int) := ⟨v7'.toNat, by omega⟩
      have g57 : SameX [d] H5 H7 := g6.trans g7
      have hp7 : PenH H7 p z line col false := g57 _ _ hp5 (by simpa using Ne.symm ndp)
      refine nil_go ⟨d, p, z, line, col, false, st, ah, r, cn, rfl, hd7, hp7, hB5, by omega, by omega, fun z' line' H' hz hL g hd' hp' => ?_⟩
      obtain ⟨⟨r', hB', _⟩, _⟩ := hL
      exact ⟨z', _, _, _, rfl, hd', hp', hB'.laid, by omega, g _ _ (g57 _ _ hF5 (by simpa using Ne.symm ndF)) nFdp, (g5.trans (g57.mono (by simp))).trans (dpF g)⟩
    · exact ⟨z, _, _, _, rfl, hd6, g6 _ _ hp5 (by simpa using Ne.symm ndp), hB5.laid, by omega, g6 _ _ hF5 (by simpa using Ne.symm ndF), g5.trans (g6.mono (by simp))⟩
  rintro σ H6 ⟨z, x1, x2, x3, rfl, hd6, hp6, hlaid, hz6, hF6, g6⟩
  refine ⟨_, rfl, p, _, _, _, rfl, rfl, SqL.of hp6, rfl, _, rfl, Fa, _, rfl, .inl ⟨SqL.of hF6, fun r1 k1 => ⟨by show 2 ≤ sizeLine; decide, fun r2 k2 => ?_⟩⟩⟩
  have zz := (Same.new k1 (.tup fs)).trans (Same.new k2 (.tup [.str z, .ref r1]))
  exact q z r2 _ _ hlaid hz6 ((g6.drop (ex0 := [d]) (by
    intro a ha
    simp only [List.mem_cons, List.not_mem_nil, or_false] at ha
    rcases ha with rfl | rfl | rfl
    · exact .inl (by simp)
    · exact .inr hp0
    · exact .inr hF0)).trans (SameX.of zz)) (dS hd6 zz) upd_same
end
end TP
set_option maxRecDepth 100000
set_option maxHeartbeats 4000000
namespace TP
open PySem L2
/-! ### words at columns -/
def spCols : Sp := fun vs H Q _ => ∃ (d : Addr), vs = [.ref d] ∧ DrAt H d ∧ ∀ (z : Str) (p : Addr) (v : V) (H' : Hp), z.length ≤ 100000 → SameX [d] H H' → DrAt H' d → H' p = some (.tup [.str z, v]) → Q (.ref p) H'
abbrev nCo : List Str := ["draws", "words", "step", "more", "text", "found", "line", "column", "row", "k", "word", "kind"]
def wordsS : List Str := ["a", "let", "of", "(", ")", "let", "case", "=", "17", "(", "->", "b"]
theorem wordsS_len : ∀ s ∈ wordsS, s.length ≤ 4 := by decide +kernel
section
variable {P : Program} {w : World} {K : PySem.W.Frag} {mg : Str → Option Value} {base : Heap}
theorem scCols : FnScope nCo ["draws"] (defScope sColumns) := ⟨rfl, rfl, rfl, by decide +kernel, rfl, by decide +kernel, by decide +kernel⟩
theorem ok_cols {f fD fK : Addr} {fd fdD fdK : FuncData} (F : Fun K "_law_columns_text" "_law_columns_text" sColumns f fd) (DD : Df K mg "_law_draw" sDraw fD fdD ["draws", "many"]) (DK : Df K mg "_law_keys" sKeys fK fdK []) (mr : mg "range" = none) (mi : mg "int" = none) (ml : mg "len" = none) :
    FnOk P w K mg base CX0 2 f fd ["draws"] spCols := by
  have GD : Draw P w K mg base fD fdD := ok_draw DD.F
  have GK : FnOk P w K mg base CX0 1 fK fdK [] spKeys := ok_keys DK.F
  refine F.ok scCols (fun vs H Q E h => ?_) (fun cdv A outer s H vs Q E hr h => ?_)
  · obtain ⟨d, rfl, _⟩ := h
    rfl
  obtain ⟨d, rfl, hd, q⟩ := h
  refine ⟨_, (pss_cons (ps_set (i := 1) scCols.nd rfl (Or.inl rfl) (pe_lst (pa_cons pe_str (pa_cons pe_str (pa_cons pe_str (pa_cons pe_str (pa_cons pe_str (pa_cons pe_str (pa_cons pe_str (pa_cons pe_str (pa_cons pe_str (pa_cons pe_str (pa_cons pe_str (pa_cons pe_str pa_nil))))))))))))))
    (pss_cons (ps_set (i := 2) scCols.nd rfl (Or.inl rfl) (pe_op op_add pe_int (pe_call GD hr rfl DD.g DD.F.kp DD.b .nil pass0 (pa_cons (pv 0) (pa_cons pe_int pa_nil)))))
    (pss_cons (ps_set (i := 3) scCols.nd rfl (Or.inl rfl) (pe_ix ix_list (pe_lst (pa_cons pe_int (pa_cons pe_int (pa_cons pe_int (pa_cons pe_int pa_nil))))) (pe_call GD hr rfl DD.g DD.F.kp DD.b .nil pass0 (pa_cons (pv 0) (pa_cons pe_int pa_nil))) (fun _ _ => rfl)))
    (pss_cons (ps_set (i := 4) scCols.nd rfl (Or.inl rfl) pe_str)
    (pss_cons (ps_set (i := 5) scCols.nd rfl (Or.inl rfl) (pe_lst pa_nil))
    (pss_cons (ps_for PassesOwn.never rfl (pi_range1 rfl mr (pa_cons (pe_op op_add pe_int (pe_call GD hr rfl DD.g DD.F.kp DD.b .nil pass0 (pa_cons (pv 0) (pa_cons pe_int pa_nil)))) pa_nil)) (pg_name (i := 6) scCols.nd rfl (Or.inl rfl)) (pss_cons (ps_set (i := 7) scCols.nd rfl (Or.inl rfl) (pe_ix ix_list (pe_lst (pa_cons (pv 3) (pa_cons (pe_op op_mul (pv 2) (pe_ix ix_list (pe_lst (pa_cons pe_int (pa_cons pe_int (pa_cons pe_int (pa_cons pe_int (pa_cons pe_int (pa_cons pe_int (pa_cons pe_int (pa_cons pe_int pa_nil))))))))) (pe_call GD hr rfl DD.g DD.F.kp DD.b .nil pass0 (pa_cons (pv 0) (pa_cons pe_int pa_nil))) (fun _ _ => rfl))) pa_nil))) (pe_callTy call_int1 (by rfl) mi (by decide +kernel) (pa_cons (pe_cmpR op_gt (pv 6) pe_int (nomark _)) pa_nil)) (fun _ _ => rfl)))
    (pss_cons (ps_set (i := 8) scCols.nd rfl (Or.inl rfl) (pe_op op_mulStr pe_str (pv 7)))
    (pss_cons (ps_for PassesOwn.never rfl (pi_range1 rfl mr (pa_cons (pe_call GD hr rfl DD.g DD.F.kp DD.b .nil pass0 (pa_cons (pv 0) (pa_cons pe_int pa_nil))) pa_nil)) (pg_name (i := 9) scCols.nd rfl (Or.inl rfl)) (pss_cons (ps_set (i := 10) scCols.nd rfl (Or.inl rfl) (pe_ix ix_list (pv 1) (pe_call GD hr rfl DD.g DD.F.kp DD.b .nil pass0 (pa_cons (pv 0) (pa_cons pe_int pa_nil))) (fun _ _ => rfl)))
    (C8.pss_cut (ps_set (i := 11) scCols.nd rfl (Or.inl rfl) (pe_ifExp (pt_cmpR op_in_seq (pv 10) (pe_call0 GK hr rfl DK.g DK.F.kp DK.b .nil pass0) (by rfl)) pe_str (pe_ifExp (pt_cmpR op_in_seq (pv 10) (pe_tup (pa_cons pe_str (pa_cons pe_str pa_nil))) (by rfl)) pe_str pe_str)))
    (pss_cons (ps_expr (pe_bm PySem.F.plainAttrs_list PySem.F.slot_list_append PySem.F.type_list_append mt_append (pv 5) (pa_cons (pe_tup (pa_cons (pe_ifExp (pt_cmpR op_eq (pv 10) pe_str (nomark _)) pe_str (pv 11)) (pa_cons (pv 10) (pa_cons (pv 6) (pa_cons (pe_callB call_len_str (by rfl) ml PySem.boot_len (pa_cons (pv 8) pa_nil)) pa_nil))))) pa_nil)))
    (pss_one (ps_set (i := 8) scCols.nd rfl (Or.inl rfl) (pe_op op_add_str (pe_op op_add_str (pv 8) (pv 10)) (pe_op op_mulStr pe_str (pe_op op_add pe_int (pe_call GD hr rfl DD.g DD.F.kp DD.b .nil pass0 (pa_cons (pv 0) (pa_cons pe_int pa_nil))))))))))))
    (pss_one (ps_set (i := 4) scCols.nd rfl (Or.inl rfl) (pe_op op_add_str (pe_op op_add_str (pv 4) (pv 8)) pe_str)))))))
    (pss_one (ps_ret (pe_tup (pa_cons (pv 4) (pa_cons (pv 5) pa_nil))))))))))), ?_⟩
  have dH : ∀ {H1 : Hp}, DrAt H1 d → ∀ {p : Addr}, H1 p = none → d ≠ p := by
    intro H1 h p hp
    obtain ⟨a, b, e, _⟩ := h
    exact ne_of_none e hp
  have dS : ∀ {H1 H2 : Hp}, DrAt H1 d → Same H1 H2 → DrAt H2 d := fun h g => h.keep (SameX.of g) (ex := []) (by simp)
  refine ⟨by show 12 ≤ sizeLine; decide, fun W hW => ?_⟩
  have ndW := dH hd hW
  have hd1 := dS hd (Same.new hW (.lst (wordsS.map V.str)))
  refine ⟨_, rfl, d, 4, rfl, by decide, by decide, hd1, fun v2 H2 h20 h21 g2 hd2 => ⟨_, _, rfl, rfl, ?_⟩⟩
  have hW2 : H2 W = some (.lst (wordsS.map V.str)) := g2 _ _ upd_same (by simpa using Ne.symm ndW)
  have g02 : SameX [d] H H2 := (SameX.new hW _).trans g2
  refine ⟨by show 4 ≤ sizeLine; decide, fun M hM => ⟨_, rfl, d, 4, rfl, by decide, by decide, dS hd2 (Same.new hM _), fun v3 H3 h30 h31 g3 hd3 => ?_⟩⟩
  have ndM := dH hd2 hM
  obtain ⟨more, hmo, emo⟩ := at_some (f := V.int) (xs := [0, 0, 0, 2]) h30 h31
  have hmo2 : 0 ≤ more ∧ more ≤ 2 := by
    simp only [List.mem_cons, List.not_mem_nil, or_false] at hmo
    omega
  have hW3 := g3 _ _ ((Same.new hM (.lst ([0, 0, 0, 2].map V.int))) _ _ hW2) (by simpa using Ne.symm ndW)
  have g03 : SameX [d] H H3 := (g02.trans (SameX.new hM _)).trans g3
  refine ⟨M, _, _, _, rfl, rfl, SqL.of (g3 _ _ upd_same (by simpa using Ne.symm ndM)), emo, ?_⟩
  refine ⟨Nat.zero_le _, fun F0 hF => ?_⟩
  have ndF := dH hd3 hF
  have hF0 : H F0 = none := g03.none hF (by simpa using Ne.symm ndF)
  have nWF : W ≠ F0 := ne_of_none hW3 hF
  have hd4 := dS hd3 (Same.new hF (.lst []))
  have hW4 := (Same.new hF (.lst [])) _ _ hW3
  refine ⟨_, rfl, d, 9, rfl, by decide, by decide, hd4, fun v5 H5 h50 h51 g5 hd5 => ⟨_, _, rfl, rfl, 1 + v5, rfl, by omega, by omega, ?_⟩⟩
  have l0 : ("" : Str).length = 0 := by decide +kernel
  have l1 : ("\n" : Str).length = 1 := by decide +kernel
  obtain ⟨step, hstep⟩ : ∃ step, step = 1 + v2 := ⟨_, rfl⟩
  refine for_range (lo := 0) (n := (1 + v5).toNat) (fun i σ H' => ∃ (z : Str) (fs : List V) (v6 v7 v8 v9 v10 v11 : Option V), σ = [some (.ref d), some (.ref W), some (.int step), some (.int more), some (.str z), some (.ref F0), v6, v7, v8, v9, v10, v11] ∧
      z.length ≤ 100 * i ∧ fs.length ≤ 10 * i ∧ H' W = some (.lst (wordsS.map V.str)) ∧ H' F0 = some (.lst fs) ∧ SameX [d] H H' ∧ DrAt H' d)
    ⟨"", [], none, none, none, none, none, none, by rw [hstep]; rfl, by rw [l0]; omega, by simp, g5 _ _ hW4 (by simpa using Ne.symm ndW), g5 _ _ upd_same (by simpa using Ne.symm ndF), (g03.trail hF0 _).trans g5, hd5⟩ ?_ ?_
  · rintro i σ H6 hi ⟨z, fs, v6, v7, v8, v9, v10, v11, rfl, hz, hfs, hW6, hF6, g6, hd6⟩
    have hi9 : i < 9 := by omega
    refine ⟨_, rfl, _, rfl, by show 8 ≤ sizeLine; decide, fun C hC => ⟨_, rfl, d, 8, rfl, by decide, by decide, dS hd6 (Same.new hC _), fun v7' H7 h70 h71 g7 hd7 => ?_⟩⟩
    have ndC := dH hd6 hC
    obtain ⟨cf, hcf, ecf⟩ := at_some (f := V.int) (xs := [0, 0, 1, 2, 3, 4, 6, 9]) h70 h71
    have hcf9 : 0 ≤ cf ∧ cf ≤ 9 := by
      simp only [List.mem_cons, List.not_mem_nil, or_false] at hcf
      omega
    have g67 : SameX [d] H6 H7 := (SameX.new hC _).trans g7
    have hst : 1 ≤ step ∧ step ≤ 4 := by omega
    have hpr : 0 ≤ step * cf ∧ step * cf ≤ 36 := by
      have h4 : step = 1 ∨ step = 2 ∨ step = 3 ∨ step = 4 := by omega
      rcases h4 with e | e | e | e <;> (rw [e]; omega)
    refine ⟨C, _, _, _, rfl, rfl, SqL.of (g7 _ _ upd_same (by simpa using Ne.symm ndC)), ecf, _, _, rfl, rfl, .inl ⟨by omega, by omega⟩, by show 2 ≤ sizeLine; decide, fun C2 hC2 => ?_⟩
    have s8 := Same.new hC2 (.lst [.int more, .int (step * cf)])
    obtain ⟨vc, hvc, evc⟩ : ∃ vc : Int, (0 ≤ vc ∧ vc ≤ 40) ∧ atI [V.int more, V.int (step * cf)] (if decide ((0 : Int) < 0 + (i : Nat)) = true then 1 else 0) = some (.int vc) := by
      cases decide ((0 : Int) < 0 + (i : Nat)) with
      | true => exact ⟨step * cf, by omega, rfl⟩
      | false => exact ⟨more, by omega, rfl⟩
    refine ⟨_, rfl, _, _, rfl, rfl, .inr ⟨_, rfl, C2, _, _, _, rfl, rfl, SqL.of upd_same, evc, ?_⟩⟩
    obtain ⟨cn, rfl⟩ : ∃ cn : Nat, vc = ((cn : Nat) : Int) := ⟨vc.toNat, by omega⟩
    have lb := len_blanks cn
    refine ⟨_, rfl, _, _, rfl, rfl, by decide +kernel, by omega, by omega, ?_⟩
    have g08 : SameX [d] H _ := (g6.trans g67).trans (SameX.of s8)
    have hW8 := s8 _ _ (g67 _ _ hW6 (by simpa using Ne.symm ndW))
    have hF8 := s8 _ _ (g67 _ _ hF6 (by simpa using Ne.symm ndF))
    have hd8 := dS hd7 s8
    generalize upd H7 C2 (.lst [.int more, .int (step * cf)]) = H8 at g08 hW8 hF8 hd8 ⊢
    refine ⟨_, rfl, d, 5, rfl, by decide, by decide, hd8, fun mk H9 h90 h91 g9 hd9 => ⟨mk, rfl, by omega, by omega, ?_⟩⟩
    refine for_range (lo := 0) (n := mk.toNat) (fun j σ H' => ∃ (row : Str) (fs : List V) (v9 v10 v11 : Option V), σ = [some (.ref d), some (.ref W), some (.int step), some (.int more), some (.str z), some (.ref F0), some (.int (0 + (i : Nat))), some (.int (cn : Nat)), some (.str row), v9, v10, v11] ∧
        row.length ≤ 40 + 7 * j ∧ fs.length ≤ 10 * i + j ∧ H' W = some (.lst (wordsS.map V.str)) ∧ H' F0 = some (.lst fs) ∧ SameX [d] H H' ∧ DrAt H' d)
      ⟨Txt.mul (" " : Str) (cn : Nat), fs, v9, v10, v11, rfl, by rw [lb]; omega, by omega, g9 _ _ hW8 (by simpa using Ne.symm ndW), g9 _ _ hF8 (by simpa using Ne.symm ndF), g08.trans g9, hd9⟩ ?_ ?_
    · rintro j σ H10 hj ⟨row, fs, w9, w10, w11, rfl, hrow, hfs, hW10, hF10, g10, hd10⟩
      refine ⟨_, rfl, _, rfl, d, 12, rfl, by decide, by decide, hd10, fun vw H11 h110 h111 g11 hd11 => ?_⟩
      obtain ⟨wd, hwd, ewd⟩ := at_some (f := V.str) (xs := wordsS) h110 h111
      have hwl := wordsS_len wd hwd
      have hW11 := g11 _ _ hW10 (by simpa using Ne.symm ndW)
      have hF11 := g11 _ _ hF10 (by simpa using Ne.symm ndF)
      refine ⟨W, _, _, _, rfl, rfl, SqL.of hW11, ewd, ?_⟩
      -- its kind
      refine ⟨fun σ H' => ∃ (kd : Str), σ = [some (.ref d), some (.ref W), some (.int step), some (.int more), some (.str z), some (.ref F0), some (.int (0 + (i : Nat))), some (.int (cn : Nat)), some (.str row), some (.int (0 + (j : Nat))), some (.str wd), some (.str kd)] ∧ Same H11 H', ?_, ?_⟩
      · refine ⟨_, rfl, rfl, fun pK hK => ?_⟩
        refine ⟨pK, keysS.map V.str, rfl, .inl (SqL.of upd_same), rfl, by decide +kernel, _, rfl, ite2 (fun _ => ⟨_, rfl, Same.new hK _⟩) (fun _ => ?_)⟩
        refine ⟨_, rfl, by show 2 ≤ sizeLine; decide, fun pT hT => ⟨pT, _, rfl, .inr (SqT.of upd_same), rfl, rfl, _, rfl, ite2 (fun _ => ⟨_, rfl, (Same.new hK _).trans (Same.new hT _)⟩) (fun _ => ⟨_, rfl, (Same.new hK _).trans (Same.new hT _)⟩)⟩⟩
      rintro σ H12 ⟨kd, rfl, s12⟩
      have hF12 := s12 _ _ hF11
      have hrl : row.length ≤ 100 := by omega

      have ap : ∀ x0 : V, ∀ pT, H12 pT = none → ∃ (l : Addr) (ys : List V) (y : V), V.ref F0 = .ref l ∧ [V.ref pT] = [y] ∧ (upd H12 pT (.tup [x0, .str wd, .int (0 + (i : Nat)), .int row.length])) l = some (.lst ys) ∧ ys.length < sizeLine ∧
          (fun (σ : L2.St) (H' : Hp) => (tAsg (tOp (fun x y H Q => ∃ i j, x = .str i ∧ y = .str j ∧ i.length + j.length ≤ sizeLine ∧ Q (.str (i ++ j)) H) (tOp (fun x y H Q => ∃ i j, x = .str i ∧ y = .str j ∧ i.length + j.length ≤ sizeLine ∧ Q (.str (i ++ j)) H) (tVar 8) (tVar 10))
            (tOp (fun x y H Q => ∃ (z : Str) (i : Int), x = .str z ∧ y = .int i ∧ z.length ≤ 16 ∧ 0 ≤ i ∧ i ≤ 1048576 ∧ Q (.str (Txt.mul z i)) H) (tC (.str " ")) (tOp (rI0 fun i j => .int (i + j)) (tC (.int 1)) (tCall spDraw [] E0 (tCons (tVar 0) (tCons (tC (.int 3)) tNil)))))) (gName 8))
            { nx := fun σ H' => ∃ (row : Str) (fs : List V) (v9 v10 v11 : Option V), σ = [some (.ref d), some (.ref W), some (.int step), some (.int more), some (.str z), some (.ref F0), some (.int (0 + (i : Nat))), some (.int (cn : Nat)), some (.str row), v9, v10, v11] ∧
                row.length ≤ 40 + 7 * (j + 1) ∧ fs.length ≤ 10 * i + (j + 1) ∧ H' W = some (.lst (wordsS.map V.str)) ∧ H' F0 = some (.lst fs) ∧ SameX [d] H H' ∧ DrAt H' d, rt := Q } σ H')
            [some (.ref d), some (.ref W), some (.int step), some (.int more), some (.str z), some (.ref F0), some (.int (0 + (i : Nat))), some (.int (cn : Nat)), some (.str row), some (.int (0 + (j : Nat))), some (.str wd), some (.str kd)] (upd (upd H12 pT (.tup [x0, .str wd, .int (0 + (i : Nat)), .int row.length])) l (.lst (ys ++ [y]))) := by
        intro x0 pT hT
        have nFT : F0 ≠ pT := ne_of_none hF12 hT
        refine ⟨F0, fs, _, rfl, rfl, (Same.new hT _) _ _ hF12, by rw [sizeLine_eq]; omega, ?_⟩
        have s13 := s12.trans (Same.new hT (.tup [x0, .str wd, .int (0 + (i : Nat)), .int row.length]))
        have hd13 := dS hd11 s13
        have sF : SameX [F0] (upd H12 pT (.tup [x0, .str wd, .int (0 + (i : Nat)), .int row.length])) (upd (upd H12 pT (.tup [x0, .str wd, .int (0 + (i : Nat)), .int row.length])) F0 (.lst (fs ++ [.ref pT]))) := SameX.put (by simp) _
        have hd14 := hd13.keep sF (by simpa using ndF)
        refine ⟨_, rfl, _, rfl, _, _, rfl, rfl, by rw [sizeLine_eq]; omega, _, rfl, d, 3, rfl, by decide, by decide, hd14, fun vs H15 h150 h151 g15 hd15 => ?_⟩
        obtain ⟨bn, hbn⟩ : ∃ bn : Nat, 1 + vs = ((bn : Nat) : Int) := ⟨(1 + vs).toNat, by omega⟩
        have lb2 := len_blanks bn
        have la : (row ++ wd).length = row.length + wd.length := len_app _ _
        refine ⟨_, _, rfl, rfl, (" " : Str), bn, rfl, congrArg V.int hbn, by decide +kernel, by omega, by omega, _, _, rfl, rfl, by rw [la, lb2, sizeLine_eq]; omega, ?_⟩
        refine ⟨_, fs ++ [.ref pT], _, _, _, rfl, by rw [len_app, la, lb2]; omega, by simp; omega, g15 _ _ (sF _ _ (s13 _ _ hW11) (by simpa using nWF)) (by simpa using Ne.symm ndW), g15 _ _ upd_same (by simpa using Ne.symm ndF), ?_, hd15⟩
        exact (((g10.trans g11).trans (SameX.of s13)).trail hF0 _).trans g15
      have hsz4 : ([V.str kd, .str wd, .int 0, .int 0] : List V).length ≤ sizeLine := by show 4 ≤ sizeLine; decide
      refine ⟨_, rfl, .inl ⟨rfl, _, SqL.of hF12⟩, _, rfl, rfl, _, rfl, ite2 (fun _ => ⟨_, rfl, _, rfl, _, rfl, _, rfl, by rw [sizeLine_eq]; omega, hsz4, fun pT hT => ap _ pT hT⟩) (fun _ => ⟨_, rfl, _, rfl, _, rfl, _, rfl, _, rfl, by rw [sizeLine_eq]; omega, hsz4, fun pT hT => ap _ pT hT⟩)⟩
    · rintro σ H10 ⟨row, fs, w9, w10, w11, rfl, hrow, hfs, hW10, hF10, g10, hd10⟩
      have hmk : mk.toNat ≤ 4 := by omega
      have la : (z ++ row).length = z.length + row.length := len_app _ _
      refine ⟨_, rfl, _, rfl, _, _, rfl, rfl, by rw [sizeLine_eq]; omega, _, _, rfl, rfl, by rw [la, l1, sizeLine_eq]; omega, ?_⟩
      exact ⟨_, fs, _, _, _, _, _, _, rfl, by rw [len_app, la, l1]; omega, by omega, hW10, hF10, g10, hd10⟩
  · rintro σ H6 ⟨z, fs, v6, v7, v8, v9, v10, v11, rfl, hz, hfs, hW6, hF6, g6, hd6⟩
    refine ⟨_, rfl, _, rfl, by show 2 ≤ sizeLine; decide, fun pT hT => ?_⟩
    exact q z pT _ _ (by omega) (g6.trans (SameX.new hT _)) (dS hd6 (Same.new hT _)) upd_same
end
end TP
set_option maxRecDepth 100000
set_option maxHeartbeats 4000000
namespace TP
open PySem L2
/-! ### the law's look -/
section
variable {X : Cx}
theorem mks_get {H : Hp} {as : List Addr} {ms : List Mrk} (h : MksAt H as ms) {j : Nat} (hj : j < as.length) : ∃ m, ms[j]? = some m ∧ H as[j] = some (.tup m.v) := by
  have e : as[j]? = some as[j] := by simp [hj]
  obtain ⟨m, h1, h2⟩ := pair_get h e
  exact ⟨m, h1, h2⟩
theorem op_neMarks (hu : X.A.units + 64 < cLine) : OpR X (compareOp .NotEq) (fun x y H Q => ∃ (a b : Addr) (as bs : List Addr) (ms : List Mrk), x = .ref a ∧ y = .ref b ∧ SqL X.K H a (as.map V.ref) ∧ SqL X.K H b (bs.map V.ref) ∧ MksAt H as ms ∧ MksAt H bs ms ∧ Q (.bl false) H) := by
  intro pins s σ H x y v u Q I r1 r2 h
  obtain ⟨a, b, as, bs, ms, rfl, rfl, ha, hb, ma, mb, q⟩ := h
  cases r1
  cases r2
  obtain ⟨its, ra, ia, _⟩ := I.list ha
  obtain ⟨its2, rb, ib, _⟩ := I.list hb
  have la := ra.length
  have lb := rb.length
  have l1 : as.length = ms.length := Paired.length ma
  have l2 : bs.length = ms.length := Paired.length mb
  have lm1 : (as.map V.ref).length = as.length := List.length_map _
  have lm2 : (bs.map V.ref).length = bs.length := List.length_map _
  have hsz : its.toArray.size = its2.toArray.size := by simp; omega
  refine SeqAt.RcNeAt.lists (e := fun _ => true) ia.isList ib.isList hsz (by omega) (fun j j1 j2 => ?_) X.prog X.w X.xe _ ?_
  · have h1 : j < as.length := by simp at j1; omega
    have h2 : j < bs.length := by simp at j2; omega
    obtain ⟨m, em, hm⟩ := mks_get ma h1
    obtain ⟨m2, em2, hm2⟩ := mks_get mb h2
    rw [em] at em2
    cases em2
    obtain ⟨w1, e1, rw1⟩ := ra.get (i := j) (x := .ref as[j]) (by simp [h1])
    obtain ⟨w2, e2, rw2⟩ := rb.get (i := j) (x := .ref bs[j]) (by simp [h2])
    cases rw1
    cases rw2
    have g1 : its.toArray[j] = Value.ref as[j] := by
      have := (List.getElem?_eq_some_iff.mp e1).2
      simpa using this
    have g2 : its2.toArray[j] = Value.ref bs[j] := by
      have := (List.getElem?_eq_some_iff.mp e2).2
      simpa using this
    rw [g1, g2]
    by_cases hab : as[j] = bs[j]
    · rw [hab]
      exact SeqAt.EqAt.same _
    · obtain ⟨t1, rt1, it1, _⟩ := I.tuple (SqT.of (K := X.K) hm)
      obtain ⟨t2, rt2, it2, _⟩ := I.tuple (SqT.of (K := X.K) hm2)
      have hl1 := rt1.length
      have hl2 := rt2.length
      refine SeqAt.EqAt.of_refs hab ?_
      have hR := SeqAt.RcAt.tuples (A := X.A.in1) (e := fun _ => true) it1 it2 (by show X.A.units + 1 < cLine; omega) (fun i i1 i2 => by
        have k1 : i < m.v.length := by simp at i1; omega
        obtain ⟨u1, f1, ru1⟩ := rt1.get (i := i) (x := m.v[i]) (by simp [k1])
        obtain ⟨u2, f2, ru2⟩ := rt2.get (i := i) (x := m.v[i]) (by simp [k1])
        have q1 : t1.toArray[i] = u1 := by
          have := (List.getElem?_eq_some_iff.mp f1).2
          simpa using this
        have q2 : t2.toArray[i] = u2 := by
          have := (List.getElem?_eq_some_iff.mp f2).2
          simpa using this
        rw [q1, q2]
        refine eqAt_same ru1 ru2 ?_
        have hm4 : m.v[i] ∈ m.v := List.getElem_mem _
        revert hm4
        generalize m.v[i] = x
        intro hx
        simp only [Mrk.v, List.mem_cons, List.not_mem_nil, or_false] at hx
        rcases hx with rfl | rfl | rfl | rfl <;> rfl)
      have eb : ((List.range (min t1.toArray.size t2.toArray.size)).all (fun _ => true) && t1.toArray.size == t2.toArray.size) = true := by
        rw [Bool.and_eq_true]
        refine ⟨List.all_eq_true.mpr fun _ _ => rfl, ?_⟩
        simp
        omega
      rw [eb] at hR
      exact hR
  · refine ⟨.bl false, H, I, ?_, q⟩
    show Value.bool _ = Value.bool _
    congr 1
    rw [List.all_eq_true.mpr fun _ _ => rfl]
    rfl
end
theorem run3_cons (m : Mrk) (r : List Mrk) (cols : List Int) : run3 (m :: r) cols = (if m.kind = "lay" then
      if m.word = "{" then (if cols.any (fun x => decide (m.col ≤ x)) = true then none else run3 r (m.col :: cols))
      else match cols with
        | [] => none
        | c :: cs => if m.word = "}" then run3 r cs else if c = m.col then run3 r (c :: cs) else none
    else run3 r cols) := rfl
theorem Same.trail2 {H H' : Hp} {C : Addr} (g : Same H H') (hC : H C = Option.none) (o : HO) : Same H (upd H' C o) := fun b u e => by rw [upd_ne (ne_of_none e hC)]; exact g _ _ e
theorem and_no {t u : TS} {B : TT} {D : Ends} {σ : L2.St} {H : Hp} {i : Nat} {k c : Str} (hσ : σ[i]? = some (some (.str k))) (h : k ≠ c) (hu : u D σ H) : tIfS (tAnd (tTest (tOp rEq (tVar i) (tC (.str c)))) B) t u D σ H := by
  refine ⟨_, hσ, rfl, _, rfl, ?_⟩
  rw [str_dec, decide_eq_false h]
  refine iteF ?_
  exact iteF hu
theorem and_yes {t u : TS} {B : TT} {D : Ends} {σ : L2.St} {H : Hp} {i : Nat} {k c : Str} (hσ : σ[i]? = some (some (.str k))) (h : k = c) (hB : B σ H fun b H1 => if b = true then t D σ H1 else u D σ H1) : tIfS (tAnd (tTest (tOp rEq (tVar i) (tC (.str c)))) B) t u D σ H := by
  refine ⟨_, hσ, rfl, _, rfl, ?_⟩
  rw [str_dec, decide_eq_true h]
  exact iteT hB
abbrev nIs : List Str := ["text", "found", "columns", "behind", "mark", "kind", "word", "line", "column", "one"]
def spIs : Sp := fun vs H Q _ => ∃ (z : Str) (pF : Addr) (as : List Addr) (fs : List Mrk), vs = [.str z, .ref pF] ∧ z.length ≤ 4000000 ∧ H pF = some (.lst (as.map V.ref)) ∧ MksAt H as fs ∧ Passes (tl z) fs ∧ fs.length ≤ sizeLine ∧ ∀ H', Same H H' → Q (.bl true) H'
section
variable {P : Program} {w : World} {K : PySem.W.Frag} {mg : Str → Option Value} {base : Heap}
theorem scIs : FnScope nIs ["text", "found"] (defScope sIsLaid) := ⟨rfl, rfl, rfl, by decide +kernel, rfl, by decide +kernel, by decide +kernel⟩
theorem ok_is {f fM CM : Addr} {fd fdM : FuncData} (F : Fun K "_law_is_laid" "_law_is_laid" sIsLaid f fd) (DM : Df K mg "marks" sMarks fM fdM ["text"]) (GM : FnOk P w K mg base (L2N.CX P w) 4 fM fdM ["text"] (spMarks CM)) (mr : mg "reversed" = none) :
    FnOk P w K mg base (L2N.CX P w) 5 f fd ["text", "found"] spIs := by
  refine F.okXN scIs (fun vs H Q E h => ?_) (fun cdv A outer s H vs Q E hr h => ?_)
  · obtain ⟨z, pF, as, fs, rfl, _⟩ := h
    rfl
  obtain ⟨z, pF, as, fs, rfl, hz, hF, hm, hP, hsz, q⟩ := h
  refine ⟨_, (pss_cons (ps_if (pt_cmpR (op_neMarks hr.units) (pe_lc (own := [("mark", 4)]) (g := gName 4) rfl scIs.nd (pi_list (pv 1)) (blkOk_by (N := nIs) (sc := defScope sIsLaid) (by decide +kernel)) (fun _ _ _ _ _ => pg_name scIs.nd rfl (Or.inl rfl)) (fun _ _ _ _ _ => pts_one (pt_cmpR op_ne (pe_ix (show IxR _ (rIxT K) from ix_tup) (pv 4) pe_int (fun _ _ => rfl)) pe_str (nomark _))) (fun _ _ _ _ _ => (pv 4))) (pe_call GM hr rfl DM.g DM.F.kp DM.b .nil (L2N.passes_call (L2N.takes_of rfl rfl rfl rfl) fun _ _ _ _ h => h) (pa_cons (pv 0) pa_nil)) (nomark _)) (pss_one (ps_ret pe_bl)) pss_nil)
    (pss_cons (ps_set (i := 2) scIs.nd rfl (Or.inl rfl) (pe_lst pa_nil))
    (pss_cons (ps_set (i := 3) scIs.nd rfl (Or.inl rfl) (pe_tup (pa_cons (pe_op op_add (pe_m1 PySem.F.slot_str_count PySem.F.type_str_count mt_count (pv 0) pe_str) pe_int) (pa_cons pe_int pa_nil))))
    (C8.pss_cut (ps_for (passes_of rfl) rfl (pi_reversed rfl mr (pa_cons (pv 1) pa_nil)) (pg_name (i := 4) scIs.nd rfl (Or.inl rfl)) (pss_cons (ps_if (PW.pt (pw_and (pt_cmpR op_eq (pe_ix ix_tup (pv 4) pe_int (fun _ _ => rfl)) pe_str (nomark _)) (pw_and1 (pt_cmpR (op_neD hr.units) (pe_slice sl_tup (pv 4) (po_some pe_int) po_none) (pv 3) (nomark _))))) (pss_one (ps_ret pe_bl)) pss_nil)
    (pss_one (ps_set (i := 3) scIs.nd rfl (Or.inl rfl) (pe_slice sl_tup (pv 4) (po_some pe_int) po_none)))))
    (pss_cons (ps_for (passes_of rfl) rfl (pi_list (pv 1)) (pg_tup rfl (pgs_cons (pg_name (i := 5) scIs.nd rfl (Or.inl rfl)) (pgs_cons (pg_name (i := 6) scIs.nd rfl (Or.inl rfl)) (pgs_cons (pg_name (i := 7) scIs.nd rfl (Or.inl rfl)) (pgs_cons (pg_name (i := 8) scIs.nd rfl (Or.inr rfl)) pgs_nil))))) (pss_one (ps_if (PW.pt (pw_and (pt_cmpR op_eq (pv 5) pe_str (nomark _)) (pw_and1 (pt_cmpR op_eq (pv 6) pe_str (nomark _))))) (pss_cons (ps_if (pt_cmpR (op_ne_emptyL hr.units0) (pe_lc (own := [("one", 9)]) (g := gName 9) rfl scIs.nd (pi_list (pv 2)) (blkOk_by (N := nIs) (sc := defScope sIsLaid) (by decide +kernel)) (fun _ _ _ _ _ => pg_name scIs.nd rfl (Or.inl rfl)) (fun _ _ _ _ _ => pts_one (pt_cmpR op_ge (pv 9) (pv 8) (nomark _))) (fun _ _ _ _ _ => (pv 9))) (pe_lst pa_nil) (nomark _)) (pss_one (ps_ret pe_bl)) pss_nil)
    (pss_one (ps_expr (pe_bm PySem.F.plainAttrs_list PySem.F.slot_list_append PySem.F.type_list_append mt_append (pv 2) (pa_cons (pv 8) pa_nil))))) (pss_one (ps_if (PW.pt (pw_and (pt_cmpR op_eq (pv 5) pe_str (nomark _)) (pw_and1 (pt_cmpR (op_eq_emptyL hr.units0) (pv 2) (pe_lst pa_nil) (nomark _))))) (pss_one (ps_ret pe_bl)) (pss_one (ps_if (PW.pt (pw_and (pt_cmpR op_eq (pv 5) pe_str (nomark _)) (pw_and1 (pt_cmpR op_eq (pv 6) pe_str (nomark _))))) (pss_one (ps_expr (pe_bm0 PySem.F.plainAttrs_list PySem.F.slot_list_pop PySem.F.type_list_pop mt_pop (pv 2)))) (pss_one (ps_if (PW.pt (pw_and (pt_cmpR op_eq (pv 5) pe_str (nomark _)) (pw_and1 (pt_cmpR op_ne (pe_ix ix_list (pv 2) (pe_un un_neg pe_int) (fun _ _ => rfl)) (pv 8) (nomark _))))) (pss_one (ps_ret pe_bl)) pss_nil)))))))))
    (pss_one (ps_ret (pe_cmpR (op_eq_emptyL hr.units0) (pv 2) (pe_lst pa_nil) (nomark _))))))))), ?_⟩
  have lz : z.length = (tl z).length := TL.len_tl z
  have hlen : as.length = fs.length := Paired.length hm
  have mAt : ∀ {i : Nat} {x : V}, (as.map V.ref)[i]? = some x → ∃ (a : Addr) (m : Mrk), x = .ref a ∧ fs[i]? = some m ∧ H a = some (.tup m.v) := by
    intro i x hx
    rw [List.getElem?_map] at hx
    obtain ⟨a, ha, rfl⟩ := Option.map_eq_some_iff.mp hx
    obtain ⟨m, h1, h2⟩ := pair_get hm ha
    exact ⟨a, m, rfl, h1, h2⟩
  refine ⟨_, rfl, pF, rfl, ⟨_, SqL.of hF⟩, fun D hD => ?_⟩
  refine lc_list (xs := as.map V.ref) (fun i H' => ∃ bs : List Addr, H' D = some (.lst (bs.map V.ref)) ∧ MksAt H' bs ((fs.take i).filter fun m => decide (m.kind ≠ ("lay" : Str))) ∧ Same H H')
    ⟨[], upd_same, .nil, Same.new hD _⟩ (fun i H' _ e => by obtain ⟨bs, _, _, e⟩ := e; exact SqL.of (e _ _ hF)) ?_ ?_
  · rintro i x H1 hx ⟨bs, hbs, hmk, s1⟩
    obtain ⟨a, m, rfl, hfm, ha⟩ := mAt hx
    have ha1 := s1 _ _ ha
    have etake : fs.take (i + 1) = fs.take i ++ [m] := by rw [List.take_succ, hfm]; rfl
    refine ⟨rfl, _, rfl, a, _, _, _, rfl, rfl, SqT.of ha1, at0 _ _, rfl, _, rfl, ?_⟩
    rw [str_dec]
    by_cases hk : m.kind = "lay"
    · rw [decide_eq_true hk]
      refine iteF ⟨bs, hbs, ?_, s1⟩
      rw [etake, List.filter_append, List.filter_cons_of_neg (by simp [hk]), List.filter_nil, List.append_nil]
      exact hmk
    · rw [decide_eq_false hk]
      refine iteT ⟨_, rfl, bs.map V.ref, hbs, ?_, bs ++ [a], by rw [upd_same, List.map_append]; rfl, ?_, fun b o e => by rw [upd_ne (ne_of_none e hD)]; exact s1 _ _ e⟩
      · have hb := Paired.length hmk
        have h2 := List.length_filter_le (fun m : Mrk => decide (m.kind ≠ ("lay" : Str))) (fs.take i)
        have h3 := List.length_take_le i fs
        have h4 : i < fs.length := (List.getElem?_eq_some_iff.mp hfm).1
        rw [List.length_map]
        omega
      · rw [etake, List.filter_append, List.filter_cons_of_pos (by simpa using hk), List.filter_nil]
        refine pair_app (hmk.same fun b xs e => ?_) (.cons ?_ .nil)
        · rw [upd_ne (ne_of e hbs (by intro q; cases q))]; exact e
        · show upd H1 D _ a = _
          rw [upd_ne (ne_of ha1 hbs (by intro q; cases q))]; exact ha1
  rintro H1 ⟨bs, hbs, hmk, s1⟩
  have efull : (as.map V.ref).length = fs.length := by rw [List.length_map]; exact hlen
  rw [efull, List.take_length] at hmk
  refine ⟨_, rfl, nil_go ⟨z, rfl, by rw [sizeLine_eq]; omega, fun ms hms hml p as2 H2 s2 hp hp2 hmk2 => ?_, fun hnone => by rw [hP.marks] at hnone; cases hnone⟩⟩
  have ems : ms = fs.filter fun m => decide (m.kind ≠ ("lay" : Str)) := by
    have := hP.marks
    rw [hms] at this
    exact Option.some.inj this
  subst ems
  refine ⟨D, p, bs, as2, _, rfl, rfl, SqL.of (s2 _ _ hbs), SqL.of hp2, hmk.same fun b xs e => s2 _ _ e, hmk2, _, rfl, iteF ?_⟩
  have s02 := s1.trans s2
  refine ⟨Nat.zero_le _, fun C hC => ?_⟩
  have hC0 : H C = none := (SameX.of (ex := []) s02).none hC (by simp)
  have s3 := s02.trans (Same.new hC (.lst []))
  refine ⟨_, rfl, ⟨_, rfl⟩, _, _, rfl, rfl, _, _, rfl, rfl, by show 2 ≤ sizeLine; decide, fun B hB => ?_⟩
  rw [count_nl]
  have hC4 : upd (upd H2 C (.lst [])) B (.tup [.int (((tl z).count 10 : Nat) + 1), .int 0]) C = some (.lst []) := by
    rw [upd_ne (ne_of_none upd_same hB)]
    exact upd_same
  have s4 := s3.trans (Same.new hB (.tup [.int (((tl z).count 10 : Nat) + 1), .int 0]))
  have hB4 := upd_same (H := upd H2 C (.lst [])) (a := B) (o := .tup [.int (((tl z).count 10 : Nat) + 1), .int 0])
  generalize upd (upd H2 C (.lst [])) B (.tup [.int (((tl z).count 10 : Nat) + 1), .int 0]) = H4 at hC4 s4 hB4 ⊢
  have rsl : ∀ (m : Mrk), ¬ (HT.sIx m.v.length 0 (some 2) = 0 ∧ HT.sIx m.v.length m.v.length none = m.v.length) := by
    intro m
    show ¬ (HT.sIx 4 0 (some 2) = 0 ∧ _)
    intro h
    exact absurd h.1 (by decide)
  have rcut : ∀ (m : Mrk), cutV m.v (some 2) none = [.int m.line, .int m.col] := fun m => rfl
  -- the places
  refine ⟨fun σ H' => ∃ (v3 v4 : Option V), σ = [some (.str z), some (.ref pF), some (.ref C), v3, v4, none, none, none, none, none] ∧ H' C = some (.lst []) ∧ Same H H', ?_, ?_⟩
  · refine ⟨_, rfl, pF, _, rfl, SqL.of (s4 _ _ hF), for_it (walk_rev (K := K) (a := pF) (xs := as.map V.ref)) (fun i σ H' => ∃ (T : Addr) (bl bc : Int) (v4 : Option V), σ = [some (.str z), some (.ref pF), some (.ref C), some (.ref T), v4, none, none, none, none, none] ∧ H' T = some (.tup [.int bl, .int bc]) ∧ H' C = some (.lst []) ∧ Same H H' ∧ chk2 (fs.reverse.drop i) (bl, bc) = true)
      ⟨B, _, _, none, rfl, hB4, hC4, s4, hP.places⟩ (fun i σ H' _ e => by obtain ⟨T, bl, bc, v4, _, _, _, e, _⟩ := e; exact SqL.of (e _ _ hF)) ?_ ?_⟩
    · rintro i x σ H5 H6 hi ⟨T, bl, bc, v4, rfl, hT, hC5, s5, hchk⟩ ⟨rfl, hx⟩
      obtain ⟨a, m, rfl, hfm, ha⟩ := mAt hx
      rw [efull] at hi hfm
      have hrm : fs.reverse[i]? = some m := by rw [List.getElem?_reverse hi]; exact hfm
      have edrop : fs.reverse.drop i = m :: fs.reverse.drop (i + 1) := by
        obtain ⟨hlt, e⟩ := List.getElem?_eq_some_iff.mp hrm
        rw [List.drop_eq_getElem_cons hlt, e]
      rw [edrop] at hchk
      have hchk : (if m.kind = "lay" ∧ (m.line, m.col) ≠ (bl, bc) then false else chk2 (fs.reverse.drop (i + 1)) (m.line, m.col)) = true := hchk
      have ha5 := s5 _ _ ha
      have hrest : chk2 (fs.reverse.drop (i + 1)) (m.line, m.col) = true := by
        split at hchk
        · cases hchk
        · exact hchk
      have last : ∀ H7, Same H6 H7 → (tAsg (tSl (rSlT K) (tVar 4) (tPart (tC (.int 2))) tNoPart) (gName 3)) { nx := fun σ H' => ∃ (T : Addr) (bl bc : Int) (v4 : Option V), σ = [some (.str z), some (.ref pF), some (.ref C), some (.ref T), v4, none, none, none, none, none] ∧ H' T = some (.tup [.int bl, .int bc]) ∧ H' C = some (.lst []) ∧ Same H H' ∧ chk2 (fs.reverse.drop (i + 1)) (bl, bc) = true, rt := Q }
          [some (.str z), some (.ref pF), some (.ref C), some (.ref T), some (.ref a), none, none, none, none, none] H7 := by
        intro H7 s7
        refine ⟨_, rfl, 2, rfl, a, _, rfl, SqT.of (s7 _ _ ha5), rsl m, fun p hp => ?_⟩
        rw [rcut]
        exact ⟨p, m.line, m.col, _, rfl, upd_same, (Same.new hp _) _ _ (s7 _ _ hC5), (s5.trans s7).trans (Same.new hp _), hrest⟩
      refine ⟨_, rfl, a, _, _, _, rfl, rfl, SqT.of ha5, at0 _ _, rfl, _, rfl, ?_⟩
      rw [str_dec]
      by_cases hk : m.kind = "lay"
      · rw [decide_eq_true hk]
        refine iteT ?_
        have he : (m.line, m.col) = (bl, bc) := by
          by_cases he : (m.line, m.col) = (bl, bc)
          · exact he
          · rw [if_pos ⟨hk, he⟩] at hchk; cases hchk
        refine ⟨_, rfl, 2, rfl, a, _, rfl, SqT.of ha5, rsl m, fun p hp => ?_⟩
        rw [rcut]
        have s7 := Same.new hp (.tup [.int m.line, .int m.col])
        refine ⟨_, rfl, .tuple [.int m.line, .int m.col], .tuple [.int bl, .int bc], .tup (SqT.of upd_same) (.cons (.int _) (.cons (.int _) .nil)), .tup (SqT.of (s7 _ _ hT)) (.cons (.int _) (.cons (.int _) .nil)), rfl, rfl, _, rfl, ?_⟩
        have eq1 : m.line = bl := congrArg Prod.fst he
        have eq2 : m.col = bc := congrArg Prod.snd he
        have e5 : PyData.eqv (.tuple [.int m.line, .int m.col]) (.tuple [.int bl, .int bc]) = true := by
          rw [eq1, eq2]
          simp [PyData.eqv, PyData.eqvAll]
        rw [e5]
        exact iteF (last _ s7)
      · rw [decide_eq_false hk]
        refine iteF ?_
        exact iteF (last _ (fun _ _ e => e))
    · rintro σ H5 ⟨T, bl, bc, v4, rfl, hT, hC5, s5, hchk⟩
      exact ⟨_, _, rfl, hC5, s5⟩
  rintro σ H5 ⟨v3, v4, rfl, hC5, s5⟩
  -- the columns
  refine ⟨_, rfl, pF, rfl, ⟨_, SqL.of (s5 _ _ hF)⟩, for_it (walk_list (K := K) (a := pF) (xs := as.map V.ref)) (fun i σ H' => ∃ (cols : List Int) (v5 v6 v7 v8 : Option V), σ = [some (.str z), some (.ref pF), some (.ref C), v3, v4, v5, v6, v7, v8, none] ∧ H' C = some (.lst (cols.reverse.map V.int)) ∧ cols.length ≤ i ∧ Same H H' ∧ run3 (fs.drop i) cols = some [])
    ⟨[], none, none, none, none, rfl, hC5, Nat.le_refl _, s5, hP.cols⟩ (fun i σ H' _ e => by obtain ⟨cols, v5, v6, v7, v8, _, _, _, e, _⟩ := e; exact SqL.of (e _ _ hF)) ?_ ?_⟩
  · rintro i x σ H6 H7 hi ⟨cols, v5, v6, v7, v8, rfl, hC6, hcl, s6, hrun⟩ ⟨rfl, hx⟩
    obtain ⟨a, m, rfl, hfm, ha⟩ := mAt hx
    have edrop : fs.drop i = m :: fs.drop (i + 1) := by
      obtain ⟨hlt, e⟩ := List.getElem?_eq_some_iff.mp hfm
      rw [List.drop_eq_getElem_cons hlt, e]
    rw [edrop] at hrun
    rw [run3_cons] at hrun
    have ha6 := s6 _ _ ha
    refine ⟨a, _, rfl, SqT.of ha6, rfl, _, _, rfl, _, _, rfl, _, _, rfl, _, _, rfl, rfl, ?_⟩
    by_cases hk : m.kind = "lay"
    · rw [if_pos hk] at hrun
      by_cases hw : m.word = "{"
      · rw [if_pos hw] at hrun
        refine and_yes rfl hk ⟨_, rfl, rfl, _, rfl, ?_⟩
        rw [str_dec, decide_eq_true hw]
        refine iteT ?_
        have hany : ¬ cols.any (fun x => decide (m.col ≤ x)) = true := by
          intro e
          rw [if_pos e] at hrun
          cases hrun
        rw [if_neg hany] at hrun
        refine ⟨_, rfl, C, rfl, ⟨_, SqL.of hC6⟩, fun D2 hD2 => ?_⟩
        refine lc_list (xs := cols.reverse.map V.int) (fun i H' => H' D2 = some (.lst []) ∧ Same H7 H') ⟨upd_same, Same.new hD2 _⟩ (fun i H' _ e => SqL.of (e.2 _ _ hC6)) ?_ ?_
        · rintro j xv H8 hxv ⟨e1, e2⟩
          rw [List.getElem?_map] at hxv
          obtain ⟨c, hc, rfl⟩ := Option.map_eq_some_iff.mp hxv
          refine ⟨rfl, _, rfl, _, rfl, _, _, rfl, rfl, _, rfl, ?_⟩
          have hcm : c ∈ cols := List.mem_reverse.mp (List.mem_of_getElem? hc)
          have hlt : ¬ (m.col ≤ c) := fun e => hany (List.any_eq_true.mpr ⟨c, hcm, decide_eq_true e⟩)
          rw [decide_eq_false hlt]
          exact iteF ⟨e1, e2⟩
        rintro H8 ⟨e1, e2⟩
        refine ⟨Nat.zero_le _, fun pE hE => ?_⟩
        have s8 := e2.trans (Same.new hE (.lst []))
        refine ⟨D2, pE, [], rfl, rfl, SqL.of ((Same.new hE _) _ _ e1), SqL.of upd_same, _, rfl, iteF ?_⟩
        have hC8 := s8 _ _ hC6
        refine ⟨_, rfl, .inl ⟨rfl, _, SqL.of hC8⟩, _, rfl, C, _, _, rfl, rfl, hC8, ?_, m.col :: cols, _, _, _, _, rfl, ?_, by simp; omega, Same.trail2 (s6.trans s8) hC0 _, hrun⟩
        · rw [List.length_map, List.length_reverse]
          have h4 : i < fs.length := (List.getElem?_eq_some_iff.mp hfm).1
          omega
        · rw [upd_same, rev_push]
      · rw [if_neg hw] at hrun
        cases cols with
        | nil => cases hrun
        | cons c cs =>
          have hrun : (if m.word = "}" then run3 (fs.drop (i + 1)) cs else if c = m.col then run3 (fs.drop (i + 1)) (c :: cs) else none) = some [] := hrun
          refine and_yes rfl hk ⟨_, rfl, rfl, _, rfl, ?_⟩
          rw [str_dec, decide_eq_false hw]
          refine iteF ?_
          refine and_yes rfl hk ⟨_, rfl, Nat.zero_le _, fun pE hE => ?_⟩
          have s8 := Same.new hE (.lst [])
          have hC8 := s8 _ _ hC6
          refine ⟨C, pE, _, rfl, rfl, SqL.of hC8, SqL.of upd_same, _, rfl, ?_⟩
          have hne : ((c :: cs).reverse.map V.int).isEmpty = false := by simp
          rw [hne]
          refine iteF ?_
          by_cases hw2 : m.word = "}"
          · rw [if_pos hw2] at hrun
            refine and_yes rfl hk ⟨_, rfl, rfl, _, rfl, ?_⟩
            rw [str_dec, decide_eq_true hw2]
            refine iteT ?_
            refine ⟨_, rfl, .inl ⟨rfl, _, SqL.of hC8⟩, C, _, _, rfl, rfl, hC8, rev_last c cs, cs, _, _, _, _, rfl, by rw [upd_same, rev_pop], by simp at hcl; omega, Same.trail2 (s6.trans s8) hC0 _, hrun⟩
          · rw [if_neg hw2] at hrun
            refine and_yes rfl hk ⟨_, rfl, rfl, _, rfl, ?_⟩
            rw [str_dec, decide_eq_false hw2]
            refine iteF ?_
            have hcm : c = m.col := by
              by_cases e : c = m.col
              · exact e
              · rw [if_neg e] at hrun; cases hrun
            rw [if_pos hcm] at hrun
            refine and_yes rfl hk ⟨_, rfl, _, rfl, C, _, _, _, rfl, rfl, SqL.of hC8, rev_at c cs, _, rfl, rfl, _, rfl, ?_⟩
            rw [show (!decide (V.int c = V.int m.col)) = false by rw [hcm]; simp]
            exact iteF ⟨c :: cs, _, _, _, _, rfl, hC8, by omega, s6.trans s8, hrun⟩
    · rw [if_neg hk] at hrun
      refine and_no rfl hk (and_no rfl hk (and_no rfl hk (and_no rfl hk ?_)))
      exact ⟨cols, _, _, _, _, rfl, hC6, by omega, s6, hrun⟩
  · rintro σ H6 ⟨cols, v5, v6, v7, v8, rfl, hC6, hcl, s6, hrun⟩
    rw [efull, List.drop_length] at hrun
    have hrun : some cols = some [] := hrun
    have e := Option.some.inj hrun
    subst e
    refine ⟨_, rfl, Nat.zero_le _, fun pE hE => ?_⟩
    have s8 := Same.new hE (.lst [])
    exact ⟨C, pE, [], rfl, rfl, SqL.of (s8 _ _ hC6), SqL.of upd_same, q _ (s6.trans s8)⟩
end
end TP
set_option maxRecDepth 100000
set_option maxHeartbeats 4000000
/-! a zip's end while an exception is handled -/
namespace PySem
open Sem (wp)
open PySem.Spec PyProof.Rows HotX
section
variable {prog : Program} {w : World} {A : Around} {E : Value → Shared → Prop} {s : Shared}
theorem tp_list_end_hot {it l x1 : Addr} {i : Nat} {items : Array Value} {Q : Value → Shared → Prop} (hot : HotAt A x1 s.heap) (hx1 : x1 ≠ it)
    (hit : s.heap.IsListIter it l i) (hl : s.heap.IsList l items) (hx : items[i]? = none)
    (hE : ∀ h' e, Heap.ExtBut it s.heap h' → (∃ o, h'.get? e = some o ∧ o.cls = .type "StopIteration") → E (.ref e) { s with heap := h' }) :
    wpAny (model prog w) A (Builtin.SmallTypes.nextOf (.ref it)) Q E s := by
  obtain ⟨o, ho, hc, hd⟩ := id hit
  obtain ⟨ol, hol, _, nl, hdl⟩ := hl
  obtain ⟨hh, o1, vs1, h1, d1, c1⟩ := hot
  unfold Builtin.SmallTypes.nextOf
  refine wpAny_bind (wpAny_callSpecial?_slot (name := Str.ofString "__next__") hit.typeIs slot_listiter_next
    (wpAny_call_entry slot_listiter_next hit.typeIs entry_listiter_next ?_ (args_listiter_next _)))
  show wpAny _ _ (field (.ref it) 0 >>= _) _ _ s
  refine wpAny_bind (wpAny_field ho hd (x := .ref l) rfl ?_)
  show wpAny _ _ (if (Value.ref l == Value.none) = true then _ else _) _ _ s
  rw [if_neg (show ¬ ((Value.ref l == Value.none) = true) from Bool.false_ne_true)]
  show wpAny _ _ (field (.ref it) 1 >>= _) _ _ s
  refine wpAny_bind (wpAny_field ho hd (x := .int i 0) rfl ?_)
  show wpAny _ _ (seqItems? (.ref l) >>= _) _ _ s
  refine wpAny_bind (wpAny_seqItems hol hdl ?_)
  simp only [Int.toNat_natCast, hx]
  refine wpAny_bind (wpAny_rule (wpAny_bind (wpAny_setField ho hd (by simp) ?_)))
  show wpAny _ _ (newExc (.type "StopIteration") [] >>= _) _ _ _
  refine wpAny_bind ?_
  simp only [newExc, newTuple]
  refine wpAny_bind (wpAny_newObj_type ?_ (by size_fits))
  refine wpAny_bind (m := firstArgMember _ _) (wpAny_of_eq (a := Value.none) (by first | rfl | (simp only [firstArgMember]; rfl)) ?_)
  refine wpAny_newObj_type ?_ (by size_fits)
  have hs1 : Heap.ExtBut it s.heap (s.heap.update it (Obj.mapFields (·.setIfInBounds 0 .none))) := (Heap.SameBut.update ..).extBut
  have h1' := Heap.get?_push_of_some { cls := .type "tuple", data := .seq #[] } (hs1 _ _ hx1 h1)
  refine raiseNew_hot (x1 := x1) ⟨hh, o1, vs1, Heap.get?_push_of_some _ h1', d1, c1⟩ (Nat.ne_of_lt (Heap.lt_size h1')) (Heap.get?_push_size _ rfl) rfl (by first | (simp; done) | (simp; omega) | (simp only [Array.size_append]; simp; omega)) ?_
  refine hE _ _ (fun b o hb e => ?_) ⟨_, Heap.get?_update_self _ (Heap.get?_push_size _ rfl) rfl, rfl⟩
  have e2 := Heap.get?_push_of_some { cls := .type "tuple", data := .seq #[] } (hs1 _ _ hb e)
  rw [Heap.get?_update_other _ _ (Nat.ne_of_gt (Heap.lt_size e2))]
  exact Heap.get?_push_of_some _ e2
end
end PySem
set_option maxRecDepth 100000
set_option maxHeartbeats 4000000
/-! a comprehension over zip while an exception is handled -/
namespace PySem
open Sem (wp)
open PySem.Spec PyProof.Rows HotX
section
variable {prog : Program} {w : World} {A : Around} {E : Value → Shared → Prop} {s : Shared}
theorem tp_zip_end_hot {z TI TO i1 i2 l1 l2 x1 : Addr} {k1 : Nat} {xs : Array Value} {a b : Value} {Q : Option Value → Shared → Prop} (hot : HotAt A x1 s.heap) (n1 : x1 ≠ z) (n2 : x1 ≠ i1) (D : ZipApart z TI TO i1 i2 l1 l2)
    (hz : IsZip s.heap z TI TO .none) (hTI : IsPair s.heap TI (.ref i1) (.ref i2)) (hTO : IsPair s.heap TO a b)
    (h1 : s.heap.IsListIter i1 l1 k1) (hl1 : s.heap.IsList l1 xs) (hend : xs[k1]? = none)
    (hQ : ∀ h', (∀ c o, c ≠ z → c ≠ TO → c ≠ i1 → c ≠ i2 → s.heap.get? c = some o → h'.get? c = some o) → Q none { s with heap := h' }) : wpAny (model prog w) A (pyNext (.ref z)) Q E s := by
  have hT : s.TypeIs (.ref z) "zip" := ⟨_, hz, rfl⟩
  obtain ⟨hh, o1, vs1, g1, d1, c1⟩ := hot
  unfold pyNext
  refine wpAny_bind (wpAny_attempt (wpAny_callSpecial?_slot (name := Str.ofString "__next__") hT F.slot_zip_next
    (wpAny_call_entry F.slot_zip_next hT F.entry_zip_next ?_ (F.args_zip_next_1 _))))
  show wpAny _ _ (field (.ref z) 2 >>= _) _ _ _
  refine wpAny_bind (wpAny_field hz rfl (x := .bool false) rfl ?_)
  show wpAny _ _ (field (.ref z) 3 >>= _) _ _ _
  refine wpAny_bind (wpAny_field hz rfl (x := .ref TI) rfl ?_)
  refine wpAny_bind (wpAny_seqItems hTI rfl ?_)
  show wpAny _ _ (Builtin.SmallTypes.ownedTupleIsFree (.ref z) >>= _) _ _ _
  refine wpAny_bind ?_
  unfold Builtin.SmallTypes.ownedTupleIsFree
  refine wpAny_bind (wpAny_field hz rfl (x := .none) rfl (wpAny_pure ?_))
  simp only [if_true]
  refine wpAny_bind (wpAny_rule ?_)
  refine wpAny_bind (wpAny_field hz rfl (x := .ref TO) rfl ?_)
  refine wpAny_bind (wpAny_setField_rec hz (by simp) fun h₁ hz₁ hs₁ => ?_)
  replace hz₁ : IsZip h₁ z TI TO .ellipsis := hz₁
  refine wpAny_bind ?_
  simp only [List.zipIdx_cons, List.zipIdx_nil, List.forIn_cons, List.forIn_nil]
  refine wpAny_bind (wpAny_bind (wpAny_onRaise ?_))
  show wpAny _ _ (Builtin.SmallTypes.nextOf (.ref i1) >>= _) _ _ _
  refine wpAny_bind (tp_list_end_hot (x1 := x1) ⟨hh, o1, vs1, hs₁.extBut _ _ n1 g1, d1, c1⟩ n2 (h1.extBut hs₁.extBut D.i1z) (hl1.extBut hs₁.extBut D.l1z) hend fun h₂ e hs₂ he => ?_)
  obtain ⟨oe, hoe, hce⟩ := he
  have hz₂ : IsZip h₂ z TI TO .ellipsis := hs₂ _ _ D.i1z.symm hz₁
  have hez : e ≠ z := fun x => by subst x; rw [hz₂] at hoe; cases hoe; simp at hce
  refine wpAny_setField_rec hz₂ (by simp) fun h₃ _ hs₃ => ?_
  refine wpAny_bind (wpAny_isInstance (T := "StopIteration") (b := true) ⟨oe, hs₃.extBut _ _ hez hoe, hce⟩ isSubtype_stop ?_)
  exact wpAny_pure (hQ _ fun c o c1 _ c3 _ x => hs₃.extBut _ _ c1 (hs₂ _ _ c3 (hs₁.extBut _ _ c1 x)))
end
end PySem
namespace TP
open PySem PySem.Spec PyProof.Rows L2 L2H HotX
structure TurnQ (P : Program) (w : World) (K : PySem.W.Frag) (tg : Expr) (J : It) (fp : List Addr) (it : Addr) (tn : Nat → Heap → Prop) : Prop where
  mem : it ∈ fp
  obj : ∀ i h, tn i h → ∀ b ∈ fp, ∃ o, h.get? b = some o ∧ ∀ v, o.data ≠ .cell v
  keep : ∀ i h h', tn i h → (∀ b ∈ fp, ∀ o, h.get? b = some o → h'.get? b = some o) → tn i h'
  item : ∀ (X : Cx), X.prog = P → X.w = w → X.K = K → ∀ (i : Nat) (pins : List (Addr × Obj)) (s : Shared) (σ : L2.St) (H : Hp) (E : Value → Shared → Prop), Inv X pins σ H s → (∀ b ∈ fp, FpOk X pins H b) → tn i s.heap → J.go i H →
    wpAny (model P w) X.A (pyNext (.ref it)) (fun r s1 => ∃ u, r = some u ∧
      wpAny (model P w) X.A (letOwnedTupleGo tg (.ref it) u) (fun _ s2 => ∃ x H', Inv X pins σ H' s2 ∧ RelV x u ∧ J.yld i H x H' ∧ tn (i + 1) s2.heap ∧ ∀ b ∈ fp, H' b = none) E s1) E s
  done : ∀ (X : Cx), X.prog = P → X.w = w → X.K = K → ∀ (x1 : Addr) (i : Nat) (pins : List (Addr × Obj)) (s : Shared) (σ : L2.St) (H : Hp) (E : Value → Shared → Prop), HotAt X.A x1 s.heap → x1 ∉ fp → Inv X pins σ H s → (∀ b ∈ fp, FpOk X pins H b) → tn i s.heap → J.stop i H →
    wpAny (model P w) X.A (pyNext (.ref it)) (fun r s1 => r = none ∧ Inv X pins σ H s1) E s
  self : ∀ (A : Around) (i : Nat) (s : Shared) (Q : Value → Shared → Prop) (E : Value → Shared → Prop), tn i s.heap → Q (.ref it) s → wpAny (model P w) A (pyIter (.ref it)) Q E s
/-- two lists of one length, the items in new pairs -/
def Itzq (K : PySem.W.Frag) (a b : Addr) : It :=
  ⟨(Itz K a b).go, (Itz K a b).yld, fun i H => ∃ xs ys : List V, SqL K H a xs ∧ SqL K H b ys ∧ xs.length ≤ i⟩
theorem turn_zipQ {P : Program} {w : World} {K : PySem.W.Frag} {elts : List Expr} {kk : Nat} {tpos : Pos} {a b z TI TO i1 i2 : Addr} (D : ZipApart z TI TO i1 i2 a b) :
    TurnQ P w K (.Tuple elts kk tpos) (Itzq K a b) [z, TI, TO, i1, i2] z (fun i h => IsZip h z TI TO .none ∧ IsPair h TI (.ref i1) (.ref i2) ∧ (∃ x y, IsPair h TO x y) ∧ h.IsListIter i1 a i ∧ h.IsListIter i2 b i) where
  mem := by simp
  obj := (turn_zip (P := P) (w := w) (K := K) (elts := elts) (kk := kk) (tpos := tpos) D).obj
  keep := (turn_zip (P := P) (w := w) (K := K) (elts := elts) (kk := kk) (tpos := tpos) D).keep
  item := by
    intro X hP hw hK i pins s σ H E I hf st hg
    subst hP hw hK
    obtain ⟨hz, hTI, ⟨x0, y0, hTO⟩, h1, h2⟩ := st
    obtain ⟨xs, ys, x, y, hqx, hqy, hx, hy⟩ := hg
    obtain ⟨its, rv, p, _⟩ := I.list hqx
    obtain ⟨its2, rv2, p2, _⟩ := I.list hqy
    obtain ⟨u, hu, ru⟩ := rv.get hx
    obtain ⟨u2, hu2, ru2⟩ := rv2.get hy
    have hzl : z < s.heap.objs.size := Heap.lt_size hz
    refine wpAny_pyNext_zip_item D hz hTI hTO h1 h2 p.isList p2.isList (x := u) (y := u2) (by simpa using hu) (by simpa using hu2) fun h' z' TO' h1' h2' hT hsz hk => ?_
    refine ⟨_, rfl, wpAny_letOwnedTupleGo_zip (s := { s with heap := h' }) z' fun h'' z'' sb => ?_⟩
    have hT2 : h''.get? s.heap.objs.size = some { cls := .type "tuple", data := .seq #[u, u2] } := (sb.2 _ (Nat.ne_of_gt hzl)).trans hT
    have new : ObjOk X.prog X.w (upd H s.heap.objs.size (.tup [x, y])) h'' s.heap.objs.size (.tup [x, y]) :=
      ⟨by show 2 ≤ sizeLine; decide, [u, u2], .cons ru (.cons ru2 .nil), ⟨_, hT2, rfl, _, rfl⟩⟩
    have I1 : Inv X pins σ (upd H s.heap.objs.size (.tup [x, y])) { s with heap := h'' } :=
      I.turnedNew (t' := s.toks) (ch := [z, TI, TO, i1, i2]) (fun c o hb q => (sb.2 c (fun q' => hb (by simp [q']))).trans (hk c o (fun q' => hb (by simp [q'])) (fun q' => hb (by simp [q'])) (fun q' => hb (by simp [q'])) (fun q' => hb (by simp [q'])) q)) hf (Nat.le_refl _) new
    refine ⟨.ref s.heap.objs.size, _, I1, rfl, ⟨_, x, y, rfl, I.hok.fresh (Nat.le_refl _), rfl, fun l hl => by rw [I.list_inj hl hqx]; exact hx, fun l hl => by rw [I.list_inj hl hqy]; exact hy⟩, ⟨z'', ?_, ⟨u, u2, ?_⟩, ?_, ?_⟩, fun c hcm => ?_⟩
    · exact (sb.2 _ D.TIz).trans (hk _ _ D.TIz D.TITO D.TIi1 D.TIi2 hTI)
    · exact (sb.2 _ D.TOz).trans TO'
    · exact h1'.at fun o q => (sb.2 _ D.i1z).trans q
    · exact h2'.at fun o q => (sb.2 _ D.i2z).trans q
    · have hlt : c < s.heap.objs.size := by
        have e' : c = z ∨ c = TI ∨ c = TO ∨ c = i1 ∨ c = i2 := by simpa using hcm
        rcases e' with q | q | q | q | q
        · rw [q]; exact hzl
        · rw [q]; exact Heap.lt_size hTI
        · rw [q]; exact Heap.lt_size hTO
        · rw [q]; obtain ⟨_, e1, _⟩ := h1; exact Heap.lt_size e1
        · rw [q]; obtain ⟨_, e2, _⟩ := h2; exact Heap.lt_size e2
      rw [upd_ne (Nat.ne_of_lt hlt)]
      exact (hf c hcm).1
  done := by
    intro X hP hw hK x1 i pins s σ H E hot hx1 I hf st hg
    subst hP hw hK
    obtain ⟨hz, hTI, ⟨x0, y0, hTO⟩, h1, h2⟩ := st
    obtain ⟨xs, ys, hqx, hqy, hend⟩ := hg
    obtain ⟨its, rv, p, _⟩ := I.list hqx
    have l1 := rv.length
    exact tp_zip_end_hot hot (fun e => hx1 (by simp [e])) (fun e => hx1 (by simp [e])) D hz hTI hTO h1 p.isList (by simp; omega) fun h' hk => ⟨rfl, I.turnedL (t' := s.toks) (ch := [z, TI, TO, i1, i2]) (fun c o hb q =>
      hk c o (fun q' => hb (by simp [q'])) (fun q' => hb (by simp [q'])) (fun q' => hb (by simp [q'])) (fun q' => hb (by simp [q'])) q) hf⟩
  self := fun A i s Q E st h => wpAny_pyIter_zip st.1 h
end TP
set_option maxRecDepth 100000
set_option maxHeartbeats 4000000
namespace TP
open PySem PySem.Spec PyProof.Rows L2 L2H HotX
def PIEQ (X : Cx) (pins : List (Addr × Obj)) (σ : L2.St) (tg : Expr) (R : It → Hp → Prop) (itv : Value) (s2 : Shared) : Prop :=
  ∃ (it : Addr) (fp : List Addr) (tn : Nat → Heap → Prop) (J : It) (H' : Hp), itv = .ref it ∧ Inv X pins σ H' s2 ∧ TurnQ X.prog X.w X.K tg J fp it tn ∧ tn 0 s2.heap ∧ (∀ b ∈ fp, FpOk X pins H' b) ∧ R J H'
structure PIQ (X : Cx) (tg iter : Expr) (wi : TI) : Prop where
  run : ∀ (pins : List (Addr × Obj)) (s : Shared) (σ : L2.St) (H : Hp) (R : It → Hp → Prop), Inv X pins σ H s → wi σ H R →
    wpAny (model X.prog X.w) X.A (eval iter X.env) (fun v s1 => wpAny (model X.prog X.w) X.A (pyIter v) (PIEQ X pins σ tg R) X.xe s1) X.xe s
def iZipQ (K : PySem.W.Frag) (ta : TA) : TI := fun σ H R => ta σ H fun vs H1 => ∃ a b xs ys, vs = [.ref a, .ref b] ∧ SqL K H1 a xs ∧ SqL K H1 b ys ∧ R (Itzq K a b) H1
theorem pi_zipQ {X : Cx} {e e2 : Expr} {ta : TA} {p pos tpos : Pos} {elts : List Expr} {kk : Nat} (hg : Gl X "zip") (hm : X.mg "zip" = none) (ha : PA X [e, e2] ta)
    (hs : starEach [e, e2] X.env = (false, eval e X.env) :: starEach [e2] X.env := by rfl) (hpl : (backTo pos (starEach [e2] X.env)).any (·.1) = false := by rfl) :
    PIQ X (.Tuple elts kk tpos) (.Call (.Name "zip" p) [e, e2] [] pos) (iZipQ X.K ta) := by
  refine ⟨fun pins s σ H R I h => ?_⟩
  refine Call_ (ld_blt I hg hm PyProof.Rows.boot_zip (PyProof.Rows.callWith_type1 (thn (ha.run pos pins s σ H _ I h) fun us s1 ⟨vs, H1, I1, r1, q1⟩ => ?_) hs hpl))
  obtain ⟨a, b, xs, ys, ex, hqx, hqy, q⟩ := q1
  subst ex
  cases r1 with
  | cons r rr =>
    cases rr with
    | cons r' rr =>
      cases rr
      cases r
      cases r'
      obtain ⟨its, rv, p1, _⟩ := I1.list hqx
      obtain ⟨its2, rv2, p2, _⟩ := I1.list hqy
      refine call_zip_2 p1.isList p2.isList fun h' hz hTI hTO h1 h2 hsz hk => wpAny_pyIter_zip hz ?_
      have I2 : Inv X pins σ H1 { s1 with heap := h' } := I1.kept (t' := s1.toks) hk
      refine ⟨s1.heap.objs.size + 4, [s1.heap.objs.size + 4, s1.heap.objs.size + 2, s1.heap.objs.size + 3, s1.heap.objs.size, s1.heap.objs.size + 1], _, _, H1, rfl, I2, turn_zipQ (PySem.W.ktu_apart s1.heap.objs.size a b p1.lt p2.lt), ⟨hz, hTI, ⟨_, _, hTO⟩, h1, h2⟩, fun c hcm => ?_, q⟩
      have e' : c = s1.heap.objs.size + 4 ∨ c = s1.heap.objs.size + 2 ∨ c = s1.heap.objs.size + 3 ∨ c = s1.heap.objs.size ∨ c = s1.heap.objs.size + 1 := by simpa using hcm
      have hle : s1.heap.objs.size ≤ c := by
        rcases e' with z | z | z | z | z
        · rw [z]; exact Nat.le_add_right _ _
        · rw [z]; exact Nat.le_add_right _ _
        · rw [z]; exact Nat.le_add_right _ _
        · rw [z]; exact Nat.le_refl _
        · rw [z]; exact Nat.le_add_right _ _
      exact I1.fpOk hle (I1.hok.fresh hle)
/-- [elt for target in iter if ..] while an exception is handled -/
theorem pe_lcQ {X : Cx} {p : Addr × Obj} {elt tg iter : Expr} {ifs : List Expr} {scope : Scope} {own : List (Str × Nat)} {pos : Pos} {wi : TI} {g : TG} {tt : TT} {te : TE} (hot : Hot1 X.A p) (hpn : p ∈ X.pn) (hN : X.N.Nodup) (hi : PIQ X tg iter wi) (ok : BlkOk X.N X.env.scope scope own)
    (hg : ∀ (s : Shared) (H : Hp) (C : Addr) (cl : List (Str × Addr)) (fp : List Addr), s.heap.get? p.1 = some p.2 → H p.1 = none → p.1 ∉ frs X.stack → p.1 ∉ fp → PG (X.blk s H scope (compEnvC scope cl C X.env) fp) tg g) (ht : ∀ (s : Shared) (H : Hp) (C : Addr) (cl : List (Str × Addr)) (fp : List Addr), PTs (X.blk s H scope (compEnvC scope cl C X.env) fp) ifs tt)
    (he : ∀ (s : Shared) (H : Hp) (C : Addr) (cl : List (Str × Addr)) (fp : List Addr), PE (X.blk s H scope (compEnvC scope cl C X.env) fp) elt te) (hs : ∀ x, foldedSetIterable iter X.env x = pure x := by intro _; rfl) :
    PE X (.ListComp elt [⟨tg, iter, ifs, 0⟩] scope pos) (tLc wi g tt te (own.map (·.2))) := by
  refine ⟨fun pins s σ H Q I h => ?_⟩
  rw [eval_ListComp]
  have hfree : ∀ y ∈ scope.names, y.2 = .free → ∃ c, X.env.cells.lookup y.1 = some c := fun y hy e => by
    rcases ok.free y hy e with k | k
    · exact I.ok.has _ (.inl k)
    · exact I.ok.has _ (.inr k)
  refine wpAny_comprehension_free (use := none) rfl hs (closure_ok hfree) ok.kind (fun y hy e => by rw [ok.uniq y hy, e])
    (thn (hi.run pins s σ H _ I h) fun xv s1 hx => thn hx fun itv s2 h2 => ?_)
  obtain ⟨it, fp, tn, J, H2, e, I2, T, st2, f2, q⟩ := h2
  subst e
  refine wpAny_newObj_type (newEnv_comp ?_) (by show 0 ≤ sizeLine; decide)
  generalize hD : s2.heap.objs.size = D
  have hDn : H2 D = none := I2.hok.fresh (Nat.le_of_eq hD)
  obtain ⟨W, ⟨m0, w0⟩, turn⟩ := q D hDn
  generalize hs3 : ({ s2 with heap := s2.heap.push { cls := .type "list", data := .seq ([] : List Value).toArray } } : Shared) = s3
  have I3 : Inv X pins σ (upd H2 D (.lst [])) s3 := by
    rw [← hs3]
    refine I2.laid (t' := s2.toks) (fun b o e => Heap.get?_push_of_some _ e) (Nat.le_of_eq hD) ⟨Nat.zero_le _, [], 0, .nil, ?_⟩
    rw [← hD]
    exact Heap.get?_push_size _ rfl
  have h3 : s3.heap = s2.heap.push { cls := .type "list", data := .seq ([] : List Value).toArray } := by rw [← hs3]
  have f3 : ∀ b ∈ fp, FpOk X pins (upd H2 D (.lst [])) b ∧ b < s3.heap.objs.size := fun b hb => by
    obtain ⟨o, eo, _⟩ := T.obj _ _ st2 b hb
    have hlt := Heap.lt_size eo
    refine ⟨⟨?_, (f2 b hb).2⟩, by rw [h3, Heap.size_push]; exact Nat.lt_succ_of_lt hlt⟩
    rw [upd_ne (by rw [← hD]; exact Nat.ne_of_lt hlt)]
    exact (f2 b hb).1
  have st3 : tn 0 s3.heap := T.keep _ _ _ st2 fun b _ o e => by rw [h3]; exact Heap.get?_push_of_some _ e
  have I4 := block_start I3 ok hN f3
  have pt := ht s3 (upd H2 D (.lst [])) s3.heap.objs.size (cellsFrom (s3.heap.objs.size + 1) scope.names (cloFrom X.env.cells scope.names [])) fp
  have pe := he s3 (upd H2 D (.lst [])) s3.heap.objs.size (cellsFrom (s3.heap.objs.size + 1) scope.names (cloFrom X.env.cells scope.names [])) fp
  show codeAny _ _ (.compStart (.ListComp elt [⟨tg, iter, ifs, 0⟩] scope pos) 0 (.ref it) (.ref D) (compEnvC scope (cellsFrom (s3.heap.objs.size + 1) scope.names (cloFrom X.env.cells scope.names [])) s3.heap.objs.size X.env)) (compPost (model X.prog X.w) X.A X.xe none (EP X pins σ Q) (.ref D) s3.heap.objs.size) { s3 with heap := pushCells (s3.heap.push { cls := .type "dict", data := .dict #[] }) scope.names }
  have nfp : ∀ b ∈ fp, (upd H2 D (.lst [])) b = none := fun b hb => (f3 b hb).1.1
  -- the handled exception's object
  have P3 := I3.pin p (List.mem_append_left _ hpn)
  have pfp : p.1 ∉ fp := fun hm => (f3 p.1 hm).1.2.2.2.2.2 p (List.mem_append_left _ hpn) rfl
  have pfr : p.1 ∉ frs X.stack := fun hm => (List.mem_cons.mp (I3.stkSub p.1 hm)).elim P3.2.2.1 P3.2.2.2.1
  have pg := hg s3 (upd H2 D (.lst [])) s3.heap.objs.size (cellsFrom (s3.heap.objs.size + 1) scope.names (cloFrom X.env.cells scope.names [])) fp P3.1 P3.2.1 pfr pfp
  generalize hce : compEnvC scope (cellsFrom (s3.heap.objs.size + 1) scope.names (cloFrom X.env.cells scope.names [])) s3.heap.objs.size X.env = ce at I4 pg pt pe ⊢
  have cL : ce.locals = s3.heap.objs.size := by subst hce; rfl
  generalize hH3 : upd H2 D (.lst []) = H3 at I3 I4 pg pt pe w0 nfp f3 P3
  generalize hs4 : ({ s3 with heap := pushCells (s3.heap.push { cls := .type "dict", data := .dict #[] }) scope.names } : Shared) = s4 at I4 ⊢
  have st4 : tn 0 s4.heap := T.keep _ _ _ st3 fun b _ o e => by rw [← hs4]; exact pushCells_keeps _ _ _ _ (Heap.get?_push_of_some _ e)
  have stat : ∀ {σ' : L2.St} {H' : Hp} {s' : Shared}, Inv (X.blk s3 H3 scope ce fp) [] σ' H' s' → (∀ b ∈ fp, H' b = none) → ∀ b ∈ fp, FpOk (X.blk s3 H3 scope ce fp) [] H' b := fun {σ' H' s'} I' hn b hb =>
    ⟨hn b hb, (I'.ok.exf b hb).1, I'.ok.exfs b hb, .inl hb, fun x c e => (I'.ok.exf b hb).2 x c e, fun p hp => absurd (show p ∈ ([] : List (Addr × Obj)) ++ [] from hp) (by simp)⟩
  have loop : codeAny (model X.prog X.w) X.A (.compLoop (.ListComp elt [⟨tg, iter, ifs, 0⟩] scope pos) 0 (.ref it) (.ref D) ce) (compPost (model X.prog X.w) X.A X.xe none (EP X pins σ Q) (.ref D) s3.heap.objs.size) s4 := by
    refine compLoop_any (fun n s' => ∃ i H', Inv (X.blk s3 H3 scope ce fp) [] (wipe σ (own.map (·.2))) H' s' ∧ tn i s'.heap ∧ (∀ b ∈ fp, H' b = none) ∧ W i n H') ?_ m0 ⟨0, H3, I4, st4, nfp, w0⟩
    rintro n s5 ⟨i, H5, I5, st5, n5, w5⟩
    rcases turn i n H5 w5 with ⟨stop, qq⟩ | ⟨go, Nx, hNx, step⟩
    · have hotA : HotAt X.A p.1 s5.heap := by
        obtain ⟨hh, vs, dv, cv⟩ := hot
        exact ⟨hh, p.2, vs, I5.base.keep p.1 p.2 P3.1 P3.2.1 pfr pfp, dv, cv⟩
      have td := T.done (X.blk s3 H3 scope ce fp) rfl rfl rfl p.1 i [] s5 _ H5 (fun _ _ => False) hotA pfp I5 (stat I5 n5) st5 stop
      refine thnF td fun r s6 ⟨hr, I6⟩ => ?_
      subst hr
      have I7 : Inv X pins σ H5 s6 := I3.call' (ch := fp) I6.os I6.base I6.hok I6.bare fun b hb => ⟨(f3 b hb).1.2.2.2.1, (f3 b hb).1.2.1, (f3 b hb).1.2.2.2.2.1, (f3 b hb).1.2.2.2.2.2⟩
      have nC : H5 s3.heap.objs.size = none := by
        have z : H5 ce.locals = none := I6.free
        rw [cL] at z
        exact z
      obtain ⟨m, hn, _⟩ := I6.loc
      have hn : s6.heap.Ns ce.locals m := hn
      rw [cL] at hn
      refine ⟨m, hn, fun h'' sb => ?_⟩
      obtain ⟨f0, f1, g2, g3, f4, f5⟩ := I3.fpOk (Nat.le_refl _) nC
      exact ⟨.ref D, H5, I7.turned (t' := s6.toks) (fun b o hb e => (sb.2 b hb).trans e) f0 f1 g3 f4 f5, rfl, qq⟩
    · have ti := T.item (X.blk s3 H3 scope ce fp) rfl rfl rfl i [] s5 _ H5 (fun _ _ => False) I5 (stat I5 n5) st5 go
      refine thnF ti fun r s6 ⟨u, hr, h6⟩ => ?_
      subst hr
      refine thnF h6 fun _ s7 ⟨x, H7, I7, r7, y7, st7, n7⟩ => ?_
      have I7' := I7.pinned (stat I7 n7) (T.obj _ _ st7)
      refine thnF (pg.run _ s7 _ H7 x u _ I7' r7 (step x H7 y7)) fun _ s8 ⟨σ8, H8, I8, hw8, q8⟩ => ?_
      refine thnF (pt.run _ s8 σ8 H8 _ I8 q8) fun b s9 ⟨H9, I9, q9⟩ => ?_
      have fin : ∀ {s' : Shared} {H' : Hp}, Inv (X.blk s3 H3 scope ce fp) ([] ++ pinsAt fp s7.heap) σ8 H' s' → Nx H' → ∃ m, m < n ∧ ∃ i H', Inv (X.blk s3 H3 scope ce fp) [] (wipe σ (own.map (·.2))) H' s' ∧ tn i s'.heap ∧ (∀ b ∈ fp, H' b = none) ∧ W i m H' := fun {s' H'} I' nx => by
        obtain ⟨m', hm, w'⟩ := hNx H' nx
        have pin' : ∀ b ∈ fp, ∀ o, s7.heap.get? b = some o → s'.heap.get? b = some o ∧ H' b = none := fun b hb o e =>
          let z := I'.pin (b, o) (List.mem_append_right _ (List.mem_append_right _ (mem_pinsAt hb e)))
          ⟨z.1, z.2.1⟩
        have hl : (wipe σ (own.map (·.2))).length = σ8.length := by rw [← hw8, wipe_length]
        refine ⟨m', hm, i + 1, H', (I'.unpinned (pins := [])).weak hl (fun j v e => ?_), T.keep _ _ _ st7 fun b hb o e => (pin' b hb o e).1, fun b hb => ?_, w'⟩
        · rw [← hw8] at e
          exact (wipe_some e).1
        · obtain ⟨o, e, _⟩ := T.obj _ _ st7 b hb
          exact (pin' b hb o e).2
      cases b with
      | false =>
        simp only [Bool.false_eq_true, if_false] at q9 ⊢
        exact fin I9 q9
      | true =>
        simp only [if_true] at q9 ⊢
        refine thnF (pe.run _ s9 σ8 H9 _ I9 q9) fun z s10 ⟨yv, H10, I10, r10, acc, hD10, hz10, nx⟩ => ?_
        exact app_ok (X := X.blk s3 H3 scope ce fp) I10 hD10 hz10 r10 fun s11 I11 => fin I11 nx
  exact codeAny_compStart_list loop (T.self X.A 0 _ _ _ st4 loop)
end TP
set_option maxRecDepth 100000
set_option maxHeartbeats 4000000
namespace TP
open PySem PySem.Spec PyProof.Rows L2 L2H HotX
/-! ### a def called in an except suite, told of the error that is handled -/
structure FnP (P : Program) (w : World) (K : PySem.W.Frag) (mg : Str → Option Value) (base : Heap) (k : Nat) (f : Addr) (fd : FuncData) (ps : List Str) (sp : Addr × Obj → Sp) : Prop where
  len : ∀ p vs H Q E, sp p vs H Q E → vs.length = ps.length
  run : ∀ (A : Around) (outer : List Env) (s : Shared) (H : Hp) (args : Args) (us : List Value) (vs : List V) (Q : VK) (E : XK) (p : Addr × Obj), RoomH k A → Hot1 A p → PinOk outer H s p → Env0 P w K mg base A outer s H → BindsTo s fd args (ps.zip us) → Vals vs us → sp p vs H Q E →
    codeAny (model P w) A (.call (.ref f) args) (CR CX0 outer P w H s Q E) s
end TP
namespace TP
open PySem PySem.Spec PyProof.Rows L2 L2H HotX
theorem fn_ofP {P : Program} {w : World} {K : PySem.W.Frag} {mg : Str → Option Value} {base : Heap} {x qual : Str} {st : Stmt} {f : Addr} {fd : FuncData} {N ps : List Str} {k : Nat} {sp : Addr × Obj → Sp} (F : Fun K x qual st f fd) (S : FnScope N ps (defScope st))
    (len : ∀ p vs H Q E, sp p vs H Q E → vs.length = ps.length)
    (hbody : ∀ (cdv : Value) (A : Around) (outer : List Env) (s : Shared) (H : Hp) (vs : List V) (Q : VK) (E : XK) (p : Addr × Obj), Hot1 A p → RoomH k (A.deeper (envOfC qual (defScope st) s.heap.objs.size f cdv)) → sp p vs H Q E →
      ∃ t, PSs (cxH CX0 P w K mg base N qual (defScope st) f cdv A outer s H E p) (defBody st) t ∧ t { nx := fun _ H' => Q .non H', rt := Q } (L2.start N vs) H) :
    FnP P w K mg base (k + 1) f fd ps sp := by
  obtain ⟨oc, od, kV, doc, pm, an, cdv, ct, osl, rfl, lk, hcd⟩ := F.ex
  refine ⟨len, fun A outer s H args us vs Q E p hr hot hpin e0 hb r hsp => ?_⟩
  have hl := len _ _ _ _ _ hsp
  have KX : K.In s.heap := e0.mod.kin.keeps fun b o e => (e0.bs b o e).1
  have lim : s.heap.NoLimit := e0.mod.nolimit.keeps fun b o e => (e0.bs b o e).1
  have hkind : ∀ y ∈ ps.zip us, (defScope st).names.lookup y.1 = some .local ∨ ((defScope st).names.lookup y.1 = some .cell ∧ ((cellsFrom (s.heap.objs.size + 1) (defScope st).names []).lookup y.1).isSome = true) := fun ⟨n, v⟩ hy => by
    rcases S.par n (List.of_mem_zip hy).1 with q | q
    · exact .inl q
    · exact .inr ⟨q, PySem.W.cellsFrom_some _ _ _ (.inl q)⟩
  refine codeAny_call_function hr.depth (KX _ _ lk) rfl S.co S.gen rfl (PySem.W.codeRec_of KX hcd) (hb _ _ _ _ ?_)
  refine wpAny_newFunctionEnv_cells S.kind hkind fun env he s1 x => ?_
  subst he
  refine ⟨lim.keeps x.toInCall.keep, codeAny_func ?_⟩
  obtain ⟨t, ht, hq⟩ := hbody cdv A outer s H vs Q E p hot (hr.deeper _) hsp
  have I : Inv (cxH CX0 P w K mg base N qual (defScope st) f cdv A outer s H E p) [] (L2.start N vs) H s1 := inv_startH S hpin e0 hl r x
  refine wpAny_mono (ht.run [] s1 (L2.start N vs) H _ I hq) (fun fl s' hs => ?_) fun e s' hs => hs
  have fin : ∀ {σ' : L2.St} {H' : Hp} {v : V} {u : Value}, Inv (cxH CX0 P w K mg base N qual (defScope st) f cdv A outer s H E p) [] σ' H' s' → RelV v u → Q v H' → CE outer P w H s Q u s' :=
    fun {σ' H' v u} J rv q => ⟨v, H', J.os, J.bare, J.base, J.hok, rv, q⟩
  cases fl with
  | ret u =>
    obtain ⟨v, σ', H', J, rv, q⟩ := hs
    exact fin J rv q
  | next =>
    obtain ⟨σ', H', J, q⟩ := hs
    exact fin (v := V.non) (u := Value.none) J rfl q
  | brk =>
    obtain ⟨_, _, _, q⟩ := hs
    exact False.elim q
  | cont =>
    obtain ⟨_, _, _, q⟩ := hs
    exact False.elim q
section
variable {X : Cx} {k : Nat} {f C : Addr} {fd : FuncData} {ps : List Str} {sp : Addr × Obj → Sp} {x m : Str} {q pos apos : Pos} {e o : Expr} {es : List Expr} {ta : TE} {t : TA} {p : Addr × Obj}
theorem pe_callP (F : FnP X.prog X.w X.K X.mg X.base k f fd ps sp) (hr : RoomH k X.A) (hot : Hot1 X.A p) (hp : p ∈ X.pn) (hg : Gl X x) (hm : X.mg x = some (.ref f)) (hk : PySem.W.keepIn X.K (.ref f) = true) (hb : Binds X.K fd ps [])
    (ha : PA X (e :: es) t) (hdb : (x == ("__debug__" : Str)) = false := by decide) (he : starEach (e :: es) X.env = (false, eval e X.env) :: starEach es X.env := by rfl) (hpl : (backTo pos (starEach es X.env)).any (·.1) = false := by rfl) :
    PE X (.Call (.Name x q) (e :: es) [] pos) (tCall (sp p) [] (fun _ _ _ => False) t) := by
  refine ⟨fun pins s σ H Q I h => ?_⟩
  refine wpAny_Call_Name_kw (ld_glob I hg hm ?_ hdb)
  refine PySem.W.callWith_K (h₀ := X.base) I.ok.mod.kin hk (thn (ha.run pos pins s σ H _ I h) fun us s1 ⟨vs, H1, I1, r, q⟩ => ⟨I1.kIn, ?_⟩) he hpl
  have q : sp p (vs ++ []) H1 Q (fun _ _ _ => False) := q
  rw [List.append_nil] at q
  have hl : us.length = ps.length := by rw [← r.length]; exact F.len _ _ _ _ _ q
  have b := hb s1 us I1.kIn (by rw [List.append_nil]; exact hl)
  rw [List.append_nil] at b
  have P1 := I1.pin p (List.mem_append_left _ hp)
  have hpin : PinOk X.stack H1 s1 p := ⟨P1.1, P1.2.1, fun hm => (List.mem_cons.mp (I1.stkSub p.1 hm)).elim P1.2.2.1 P1.2.2.2.1, P1.2.2.2.2⟩
  refine wpAny_call (codeAny_mono (F.run X.A X.stack s1 H1 ⟨us, []⟩ us vs Q _ p hr hot hpin I1.env0 b r q) fun r s' hq => ?_)
  cases r with
  | error e => exact False.elim hq
  | ok fl =>
    cases fl with
    | ret u => exact I1.after hq
    | next => exact False.elim hq
    | brk => exact False.elim hq
    | cont => exact False.elim hq
/-- what never runs -/
theorem pss_dead {ss : List Stmt} : PSs X ss (fun _ _ _ => False) := ⟨fun _ _ _ _ _ _ h => h.elim⟩
/-! ### isinstance of the handled error, its fields -/
end
end TP
set_option maxRecDepth 100000
set_option maxHeartbeats 4000000
namespace TP
open PySem PySem.Spec PySem.Calls PyProof.Rows PySem.W
section
variable {prog : Program} {w : World} {A : Around} {E : Value → Shared → Prop} {s : Shared} {K : Frag} {x D : Addr} {ox od : Obj}
theorem exc_class {Q : Option Value → Shared → Prop} (T : L2.ExcC K D) (X : K.In s.heap) (I : InstAt s.heap x ox D (some od)) (h : Q (some (.ref D)) { s with toks := s.toks + 1 }) : wpAny (model prog w) A (getAttr? (.ref x) "__class__") Q E s := by
  have hf : findObj K D (some od) "__class__" = some (.bind (.builtin "getset_descriptor.__get__") (.builtin "object.__class__")) := findObj_data (by obtain ⟨cd, hc, _⟩ := any_some T.hd; rw [hc]; rfl) T.ha T.hn T.ht
  obtain ⟨hp, g, d, t, os⟩ := s
  have L0 := I.type (M := model prog w)
  have L1 := looks_findIn (M := model prog w) X T.hg
  have L2 := looks_findIn (M := model prog w) X T.hk
  have L3 := looks_find (M := model prog w) X I hf
  have sub : Looks (model prog w) hp (isInstance (.ref x) (.type "BaseException")) true := L0.andThen (looks_subIn X T.hs)
  have hx0 : (false && onTheHeap (Value.builtin "BaseException.__getattribute__")) = false := rfl
  have hx2 : (Value.builtin "BaseException.__getattribute__" == Value.builtin "object.__getattribute__") = false := by decide +kernel
  have hx1 : (onTheHeap (Value.ref D) && Value.builtin "BaseException.__getattribute__" == Value.builtin "object.__getattribute__") = false := by rw [hx2]; rfl
  unfold getAttr? getAttrBy? getAttrBy
  refine wpAny_bind (wpAny_mkText (wpAny_bind (wpAny_attempt (wpAny_holding (wpAny_bind (L0.at (wpAny_bind (L1.at ?_))))))))
  show wpAny _ _ (if (onTheHeap (Value.ref D) && Value.builtin "BaseException.__getattribute__" == Value.builtin "object.__getattribute__") = true then _ else _) _ _ _
  rw [hx1, if_neg Bool.false_ne_true]
  unfold getAttrByItsOwn hookBefore
  refine wpAny_bind ?_
  rw [if_pos (show onTheHeap (Value.ref D) = true from rfl)]
  refine L2.at ?_
  refine wpAny_bind (wpAny_attempt (wpAny_holding ?_))
  unfold callGetattribute
  rw [hx0, if_neg Bool.false_ne_true]
  unfold boundAndCalled
  rw [PySem.F.excAttr_ValueError.ga.bind (.ref x)]
  refine wpAny_bind (wpAny_pure ?_)
  show wpAny _ _ (call (.builtin "BaseException.__getattribute__") [.ref x, .str "__class__" t]) _ _ _
  refine wpAny_call (codeAny_call_builtin PySem.F.excAttr_ValueError.ga.plain PySem.F.entry_bexc_ga ?_)
  refine @check_slot (model prog w) _ _ ⟨hp, g, d, t + 1, os⟩ "BaseException.__getattribute__" "BaseException" "__getattribute__" (.ref x) [.str "__class__" t] [] _ (by decide +kernel) (by decide +kernel) sub (PySem.F.args_bexc_ga (.ref x) (.str "__class__" t)) ?_
  unfold Builtin.«object.__getattribute__»
  refine wpAny_bind (wpAny_of_eq (a := ((Value.ref x : Value), [Value.str "__class__" t])) (by first | rfl | (simp only [slotArgs]; rfl)) ?_)
  refine wpAny_bind (wpAny_pure (wpAny_bind (L0.at (wpAny_bind (L3.at ?_)))))
  show wpAny _ _ (holding [Value.builtin "object.__class__"] (call (.builtin "getset_descriptor.__get__") [.builtin "object.__class__", .ref x, .ref D]) >>= ret) _ _ _
  refine wpAny_bind (wpAny_holding (wpAny_call (class_get (s := ⟨hp, g, d, t + 1, os⟩) (ox := ox) (od := some od) X I T.hm ?_)))
  refine wpAny_pure ?_
  show wpAny _ _ (handedOut (.ref D)) _ _ _
  rw [handedOut_of (v := .ref D) rfl]
  first
    | exact wpAny_pure (wpAny_pure h)
    | exact wpAny_pure h
    | exact wpAny_pure (wpAny_bind (wpAny_pure (wpAny_pure h)))
theorem exc_kitx (T : L2.ExcC K D) : KitX K (.ref x) (.ref D) (fun h => InstAt h x ox D (some od)) where
  ty := fun _ _ _ I => I.type
  it := fun _ _ X _ => by
    obtain ⟨cdD, hcD, _⟩ := any_some T.hd
    unfold clsIn at hcD
    split at hcD
    · rename_i c' d' cd' sl' ho
      intro A' Q' E' s' k q
      unfold isType loadHead
      exact wpAny_bind (wpAny_loadPart (k _ _ (X _ _ ho)) (wpAny_pure q))
    · cases hcD
  ne := (handS_kitx_exc (x := x) (ox := ox) T.hg T.hk T.hs T.hd T.ha T.hn T.ht T.hm).ne
  ca := fun X I k => exc_class T X I k
end
end TP
namespace TP
open PySem PySem.Spec PyProof.Rows L2 L2H HotX
/-- what is asked of the handled error's class -/
structure ErrC (K : PySem.W.Frag) (D : Addr) : Prop where
  c : ExcC K D
  x : XfC K D
  nl : PySem.W.findIn K (.ref D) "line" = some none
  nc : PySem.W.findIn K (.ref D) "column" = some none
/-- the handled error: its class, its dict -/
structure ErrP (D d : Addr) (p : Addr × Obj) : Prop where
  z : Zc (.ref D) (some d) p.2
  f : ∃ vs, p.2.data = .fields vs
section
variable {X : Cx} {D d : Addr} {p : Addr × Obj}
theorem errp_inst {pins : List (Addr × Obj)} {σ : L2.St} {H : Hp} {s : Shared} {fs : List (Str × V)} (hp : p ∈ X.pn) (e : ErrP D d p) (I : Inv X pins σ H s) (hd : H d = some (.xd fs)) :
    ∃ od, PySem.W.InstAt s.heap p.1 p.2 D (some od) ∧ ∃ mA : Str → Option Value, (∀ n, RelO (fs.lookup n) (mA n)) ∧ ∀ n, PySem.W.lookIn n od = some (mA n) := by
  obtain ⟨ha, _⟩ := I.pin p (List.mem_append_left _ hp)
  obtain ⟨vs, hv⟩ := e.f
  have hx : ObjOk X.prog X.w H s.heap d (.xd fs) := I.hok d _ hd
  obtain ⟨mA, hns, hr⟩ := hx
  obtain ⟨od, ho, hl⟩ := lookIn_ns hns
  exact ⟨od, ⟨ha, e.z.1, by unfold PySem.W.notCls; rw [hv] <;> rfl, by rw [e.z.2]; exact ho⟩, mA, hr, hl⟩
/-- isinstance(e, c) -/
def rIsP (K : PySem.W.Frag) (D d a : Addr) : List V → Hp → VK → Prop := fun xs H Q => ∃ (c : V) (cv : Value) (b : Bool) (fs : List (Str × V)), xs = [.ref a, c] ∧ (∀ u, RelV c u → u = cv) ∧ H d = some (.xd fs) ∧ PySem.W.kitOne K (.ref D) cv = some b ∧ Q (.bl b) H
theorem call_isP (T : ErrC X.K D) (hp : p ∈ X.pn) (e : ErrP D d p) : CallR X (.builtin "isinstance") (rIsP X.K D d p.1) := by
  intro pins s σ H xs us Q I r h
  obtain ⟨c, cv, b, fs, rfl, hcv, hd, ek, q⟩ := h
  cases r with
  | cons rx rr =>
    cases rr with
    | cons rt rr =>
      cases rr
      cases rx
      have ec := hcv _ rt
      subst ec
      obtain ⟨od, J, _⟩ := errp_inst hp e I hd
      exact PySem.W.kia_one (exc_kitx T.c) I.kIn J ek (fun z => nomatch z) fun tk => ⟨.bl b, H, I.kept (t' := tk) fun _ _ z => z, rfl, q⟩
/-- e.n -/
def tXfP (a d : Addr) (n : Str) (te : TE) : TE := fun σ H Q => te σ H fun x H1 => x = .ref a ∧ ∃ (fs : List (Str × V)) (v : V), H1 d = some (.xd fs) ∧ fs.lookup n = some v ∧ Q v H1
theorem pe_xfP {ex : Expr} {te : TE} {pos : Pos} {n : Str} (T : ErrC X.K D) (hno : PySem.W.findIn X.K (.ref D) n = some none) (hp : p ∈ X.pn) (e : ErrP D d p) (he : PE X ex te) (hb : attributeBase ex n X.env (eval ex X.env) = eval ex X.env := by rfl) :
    PE X (.Attribute ex n pos) (tXfP p.1 d n te) := by
  refine ⟨fun pins s σ H Q I h => ?_⟩
  refine attr_of hb (thn (he.run pins s σ H _ I h) fun u s1 hh => ?_)
  obtain ⟨x, H1, I1, rx, exx, fs, v, ea, l, q⟩ := hh
  subst exx
  obtain rfl : u = Value.ref p.1 := rx
  obtain ⟨od, J, mA, hr, hl⟩ := errp_inst hp e I1 ea
  obtain ⟨u, hu, ru⟩ := RelO.some_of (v := v) (o := mA n) (by rw [← l]; exact hr n)
  exact HandSPX.exc_get I1.kIn J T.x.ga T.x.gg T.x.exC (PySem.W.findObj_own T.x.hdC hno rfl (by rw [hl, hu])) (handed_of ru) ⟨v, H1, I1.tok _, ru, q⟩
end
end TP
set_option maxRecDepth 100000
set_option maxHeartbeats 4000000
namespace TP
open PySem PySem.Spec PyProof.Rows HotX
open Sem (wp)
section
variable {prog : Program} {w : World} {A : Around} {E : Value → Shared → Prop} {s : Shared}
theorem tuple_end_hot {it t x1 : Addr} {i : Nat} {items : Array Value} {Q : Option Value → Shared → Prop} (hot : HotAt A x1 s.heap) (n1 : x1 ≠ it)
    (hit : IsTupIter s.heap it t i) (ht : IsTup s.heap t items) (hx : items[i]? = none)
    (hQ : ∀ h', Heap.ExtBut it s.heap h' → Q none { s with heap := h' }) : wpAny (model prog w) A (pyNext (.ref it)) Q E s := by
  obtain ⟨o, ho, hc, hd⟩ := id hit
  obtain ⟨ol, hol, _, nl, hdl⟩ := ht
  obtain ⟨hh, o1, vs1, h1, d1, c1⟩ := hot
  unfold pyNext
  refine wpAny_bind (wpAny_attempt (wpAny_callSpecial?_slot (name := Str.ofString "__next__") hit.typeIs slot_tupleiter_next
    (wpAny_call_entry slot_tupleiter_next hit.typeIs entry_tupleiter_next ?_ (args_tupleiter_next _))))
  show wpAny _ _ (field (.ref it) 0 >>= _) _ _ s
  refine wpAny_bind (wpAny_field ho hd (x := .ref t) rfl ?_)
  show wpAny _ _ (if (Value.ref t == Value.none) = true then _ else _) _ _ s
  rw [if_neg (show ¬ ((Value.ref t == Value.none) = true) from Bool.false_ne_true)]
  show wpAny _ _ (field (.ref it) 1 >>= _) _ _ s
  refine wpAny_bind (wpAny_field ho hd (x := .int i 0) rfl ?_)
  show wpAny _ _ (seqItems? (.ref t) >>= _) _ _ s
  refine wpAny_bind (wpAny_seqItems hol hdl ?_)
  simp only [Int.toNat_natCast, hx]
  refine wpAny_bind (wpAny_rule (wpAny_bind (wpAny_setField ho hd (by simp) ?_)))
  show wpAny _ _ (newExc (.type "StopIteration") [] >>= _) _ _ _
  refine wpAny_bind ?_
  simp only [newExc, newTuple]
  refine wpAny_bind (wpAny_newObj_type ?_ (by size_fits))
  refine wpAny_bind (m := firstArgMember _ _) (wpAny_of_eq (a := Value.none) (by first | rfl | (simp only [firstArgMember]; rfl)) ?_)
  refine wpAny_newObj_type ?_ (by size_fits)
  have hs1 : Heap.ExtBut it s.heap (s.heap.update it (Obj.mapFields (·.setIfInBounds 0 .none))) := (Heap.SameBut.update ..).extBut
  have h1' := Heap.get?_push_of_some { cls := .type "tuple", data := .seq #[] } (hs1 _ _ n1 h1)
  refine raiseNew_hot (x1 := x1) ⟨hh, o1, vs1, Heap.get?_push_of_some _ h1', d1, c1⟩ (Nat.ne_of_lt (Heap.lt_size h1')) (Heap.get?_push_size _ rfl) rfl (by first | (simp; done) | (simp; omega) | (simp only [Array.size_append]; simp; omega)) ?_
  refine wpAny_bind (wpAny_isInstance (T := "StopIteration") (b := true) ⟨_, Heap.get?_update_self _ (Heap.get?_push_size _ rfl) rfl, rfl⟩ isSubtype_stop ?_)
  refine wpAny_pure (hQ _ fun b o hb e => ?_)
  have e2 := Heap.get?_push_of_some { cls := .type "tuple", data := .seq #[] } (hs1 _ _ hb e)
  rw [Heap.get?_update_other _ _ (Nat.ne_of_gt (Heap.lt_size e2))]
  exact Heap.get?_push_of_some _ e2
theorem assign_tuple_hot {env : Env} {elts : List Expr} {k : Nat} {pos : Pos} {t x1 : Addr} {items : Array Value} {Q : Unit → Shared → Prop} (hot : HotAt A x1 s.heap) (ht : IsTup s.heap t items)
    (hn : (assignEach elts env).length = items.size) (hstar : (assignEach elts env).findIdx? (·.1) = none)
    (h : ∀ h', Heap.ExtBut s.heap.objs.size s.heap h' → wpAny (model prog w) A (assignInOrder ((assignEach elts env).map (·.2)) items.toList) Q E { s with heap := h' }) :
    wpAny (model prog w) A (assign (.Tuple elts k pos) env (.ref t)) Q E s := by
  rw [assign_Tuple]
  refine wpAny_bind (wpAny_standAt ?_)
  unfold unpack
  rw [hn, hstar]
  refine wpAny_bind (wpAny_holding ?_)
  have hlt : t ≠ s.heap.objs.size := by obtain ⟨o, ho, _⟩ := ht; exact Nat.ne_of_lt (Heap.lt_size ho)
  obtain ⟨hh, o1, vs1, h1, d1, c1⟩ := hot
  have hx1 : x1 ≠ s.heap.objs.size := Nat.ne_of_lt (Heap.lt_size h1)
  unfold unpackItems
  refine wpAny_bind ?_
  · unfold notIterableAtAll
    refine wpAny_bind (wpAny_specialOf ht.typeIs slot_tuple_iter.lookup ?_)
    refine wpAny_pure ?_
    simp only [Bool.false_eq_true, if_false]
    refine wpAny_bind (wpAny_holding (iter_tuple ht ?_))
    refine wpAny_bind (wpAny_holding (draw_tuple hlt items.size 0 _ _ ⟨_, Heap.get?_push_size _ rfl, rfl, rfl⟩ (ht.push _) (by omega) fun h₁ hit₁ hs₁ => ?_))
    have hall : List.take items.size (List.drop 0 items.toList) = items.toList := by
      rw [List.drop_zero]; exact List.take_of_length_le (by simp)
    rw [hall]
    rw [if_neg (by simp)]
    have ht₁ : IsTup h₁ t items := (ht.push _).extBut hs₁.extBut hlt
    refine wpAny_bind (wpAny_holding (tuple_end_hot (x1 := x1) ⟨hh, o1, vs1, hs₁.extBut _ _ hx1 (Heap.get?_push_of_some _ h1), d1, c1⟩ hx1 hit₁ ht₁ (by simp) fun h₂ he₂ => ?_))
    simp only [Option.isSome_none, Bool.false_eq_true, if_false]
    refine wpAny_pure (h h₂ fun b o hb e => he₂ b o hb (hs₁.extBut b o hb (Heap.get?_push_of_some _ e)))
end
end TP
namespace TP
open PySem PySem.Spec PyProof.Rows L2 L2H HotX
theorem pg_tupQ {Y : Cx} {x1 : Addr} {es : List Expr} {k : Nat} {t : TGs} {n : Nat} {pos : Pos} (hot : ∀ (pins : List (Addr × Obj)) (s : Shared) (σ : L2.St) (H : Hp), Inv Y pins σ H s → HotAt Y.A x1 s.heap) (h : PGs Y es t)
    (hn : (assignEach es Y.env).length = n := by rfl) (hst : (assignEach es Y.env).findIdx? (·.1) = none := by rfl) : PG Y (.Tuple es k pos) (gTup Y.K n t) := by
  refine ⟨fun pins s σ H v u Q I r hw => ?_⟩
  obtain ⟨a, xs, e1, hq, hl, hw⟩ := hw
  subst e1
  cases r
  obtain ⟨its, rv, ht, hz⟩ := I.tuple hq
  refine assign_tuple_hot (hot _ _ _ _ I) ht (by simp [hn, ← hl, rv.length]) hst fun h' hx => ?_
  have I1 : Inv Y pins σ H { s with heap := h' } := I.kept (t' := s.toks) fun b o e => hx b o (Nat.ne_of_lt (Heap.lt_size e)) e
  exact h.run pins _ σ H xs _ Q I1 (by simpa using rv) hw
/-- in a block of such a context -/
theorem blk_hot {X : Cx} {p : Addr × Obj} {s0 : Shared} {H0 : Hp} {scope : Scope} {env : Env} {fp : List Addr} (hot : Hot1 X.A p) (h1 : s0.heap.get? p.1 = some p.2) (h2 : H0 p.1 = none) (h3 : p.1 ∉ frs X.stack) (h4 : p.1 ∉ fp)
    (pins : List (Addr × Obj)) (s : Shared) (σ : L2.St) (H : Hp) (I : Inv (X.blk s0 H0 scope env fp) pins σ H s) : HotAt (X.blk s0 H0 scope env fp).A p.1 s.heap := by
  obtain ⟨hh, vs, dv, cv⟩ := hot
  exact ⟨hh, p.2, vs, I.base.keep p.1 p.2 h1 h2 h3 h4, dv, cv⟩
end TP
set_option maxRecDepth 100000
set_option maxHeartbeats 4000000
namespace TP
open PySem PySem.Spec PyProof.Rows L2 L2H HotX
def clsN : List Str := ["BadText", "NoBlock", "NoCode", "NoForm", "NoLine", "NoMark", "NoProgram", "NoText", "NoTree", "NoWorths", "NotNow", "NotThere", "NothingLeft", "TooDeep", "TooMany", "Unsound"]
def kindN : List Str := ["BadText", "NoBlock", "NoCode", "NoForm", "NoLine", "NoMark", "NoProgram", "NoText", "NoTree", "NoWorths", "NotNow", "NotThere", "NothingLeft", "TooDeep", "TooMany", "Unsound", "+"]
/-- the classes stand under their names -/
def ClsG (mg : Str → Option Value) (cl : Str → Addr) : Prop := ∀ n ∈ clsN, mg n = some (.ref (cl n))
/-- of the class D it is known which of them it is -/
structure KindD (K : PySem.W.Frag) (cl : Str → Addr) (D : Addr) : Prop where
  c : ErrC K D
  bad : PySem.W.kitOne K (.ref D) (.ref (cl "BadText")) = some true
  all : ∀ n ∈ clsN, ∃ b, PySem.W.kitOne K (.ref D) (.ref (cl n)) = some b
  ve : ∃ b, PySem.W.kitOne K (.ref D) (.type "ValueError") = some b
def spKind (K : PySem.W.Frag) (cl : Str → Addr) (p : Addr × Obj) : Sp := fun vs H Q _ => ∃ (D d : Addr) (fs : List (Str × V)), vs = [.ref p.1] ∧ ErrP D d p ∧ KindD K cl D ∧ H d = some (.xd fs) ∧ ∀ (z : Str) (H' : Hp), Same H H' → z ≠ "told" → Q (.str z) H'
abbrev nKi : List Str := ["e", "some", "words", "word", "one"]
section
variable {K : PySem.W.Frag} {a b : Addr} {xs ys : List V}
theorem walk_zipQ {n : Nat} (h1 : n = xs.length) (h2 : n = ys.length) : Walk (Itzq K a b) n (fun H => SqL K H a xs ∧ SqL K H b ys) (YPair (fun i => xs[i]?) (fun i => ys[i]?)) := by
  refine ⟨fun i _ hi q => ?_, fun _ q => ⟨xs, ys, q.1, q.2, by omega⟩, fun i H v H' _ q y => ?_⟩
  · have h1 : i < xs.length := by omega
    have h2 : i < ys.length := by omega
    exact ⟨xs, ys, xs[i], ys[i], q.1, q.2, by simp [h1], by simp [h2]⟩
  · obtain ⟨T, x, z, h1, h2, h3, h4, h5⟩ := y
    exact ⟨T, x, z, h1, h2, h3, h4 xs q.1, h5 ys q.2⟩
end
theorem kinds_len : ∀ s ∈ kindN, s.length ≤ 16 := by decide +kernel
/-- texts that begin with BadText -/
theorem join_bad {acc : List Str} (h : acc.head? = some "BadText") : Txt.join (" " : Str) acc ≠ "told" := by
  cases acc with
  | nil => cases h
  | cons x r =>
    have hx : x = "BadText" := by simpa using h
    subst hx
    intro e
    have h1 := SX.join_S [32] ((("BadText" : Str) :: r).map tl)
    have h2 : ((("BadText" : Str) :: r).map tl).map SX.S = ("BadText" : Str) :: r := by
      rw [List.map_map]
      conv => rhs; rw [← List.map_id (("BadText" : Str) :: r)]
      exact List.map_congr_left fun x _ => SX.S_tl x
    rw [h2] at h1
    have h3 : (SX.S [32] : Str) = " " := by decide +kernel
    rw [h3, e] at h1
    have h4 : tl ("told" : Str) = TL.joinL [32] ((("BadText" : Str) :: r).map tl) := congrArg tl h1
    have h5 : (tl ("told" : Str)).head? = some 116 := by decide +kernel
    have h6 : tl ("BadText" : Str) = [66, 97, 100, 84, 101, 120, 116] := by decide +kernel
    rw [h4, List.map_cons, h6] at h5
    cases r with
    | nil => exact absurd h5 (by decide)
    | cons y r =>
      have h7 : ((([66, 97, 100, 84, 101, 120, 116] : List Nat)) ++ ([32] ++ TL.joinL [32] ((y :: r).map tl))).head? = some 116 := h5
      simp at h7
section
variable {P : Program} {w : World} {K : PySem.W.Frag} {mg : Str → Option Value} {base : Heap}
theorem scKi : FnScope nKi ["e"] (defScope sKindOf) := ⟨rfl, rfl, rfl, by decide +kernel, rfl, by decide +kernel, by decide +kernel⟩
theorem ok_kind {cl : Str → Addr} {f : Addr} {fd : FuncData} (F : Fun K "_law_kind_of" "_law_kind_of" sKindOf f fd) (G : ClsG mg cl) (mi : mg "isinstance" = none) (mz : mg "zip" = none) (mv : mg "ValueError" = none) : FnP P w K mg base 1 f fd ["e"] (spKind K cl) := by
  refine fn_ofP F scKi (fun p vs H Q E h => ?_) (fun cdv A outer s H vs Q E p hot hr h => ?_)
  · obtain ⟨D, d, fs, rfl, _⟩ := h
    rfl
  obtain ⟨D, d, fs, rfl, ep, kd, hd, q⟩ := h
  have hp : p ∈ (cxH CX0 P w K mg base nKi "_law_kind_of" (defScope sKindOf) f cdv A outer s H E p).pn := List.mem_singleton.mpr rfl
  have hotX : Hot1 (cxH CX0 P w K mg base nKi "_law_kind_of" (defScope sKindOf) f cdv A outer s H E p).A p := ⟨hot.1, hot.2⟩
  have gg : ∀ n, n ∈ clsN → mg n = some (.ref (cl n)) := G
  refine ⟨_, (pss_cons (ps_set (i := 1) scKi.nd rfl (Or.inl rfl) (pe_lst (pa_cons (pe_callB (call_isP kd.c hp ep) (by rfl) mi PyProof.Rows.boot_isinstance (pa_cons (pv 0) (pa_cons (pe_glob (v := .ref (cl "BadText")) rfl (gg "BadText" (by decide +kernel)) rfl) pa_nil))) (pa_cons (pe_callB (call_isP kd.c hp ep) (by rfl) mi PyProof.Rows.boot_isinstance (pa_cons (pv 0) (pa_cons (pe_glob (v := .ref (cl "NoBlock")) rfl (gg "NoBlock" (by decide +kernel)) rfl) pa_nil))) (pa_cons (pe_callB (call_isP kd.c hp ep) (by rfl) mi PyProof.Rows.boot_isinstance (pa_cons (pv 0) (pa_cons (pe_glob (v := .ref (cl "NoCode")) rfl (gg "NoCode" (by decide +kernel)) rfl) pa_nil))) (pa_cons (pe_callB (call_isP kd.c hp ep) (by rfl) mi PyProof.Rows.boot_isinstance (pa_cons (pv 0) (pa_cons (pe_glob (v := .ref (cl "NoForm")) rfl (gg "NoForm" (by decide +kernel)) rfl) pa_nil))) pa_nil))))))
    (pss_cons (ps_set (i := 1) scKi.nd rfl (Or.inl rfl) (pe_op op_cat (pv 1) (pe_lst (pa_cons (pe_callB (call_isP kd.c hp ep) (by rfl) mi PyProof.Rows.boot_isinstance (pa_cons (pv 0) (pa_cons (pe_glob (v := .ref (cl "NoLine")) rfl (gg "NoLine" (by decide +kernel)) rfl) pa_nil))) (pa_cons (pe_callB (call_isP kd.c hp ep) (by rfl) mi PyProof.Rows.boot_isinstance (pa_cons (pv 0) (pa_cons (pe_glob (v := .ref (cl "NoMark")) rfl (gg "NoMark" (by decide +kernel)) rfl) pa_nil))) (pa_cons (pe_callB (call_isP kd.c hp ep) (by rfl) mi PyProof.Rows.boot_isinstance (pa_cons (pv 0) (pa_cons (pe_glob (v := .ref (cl "NoProgram")) rfl (gg "NoProgram" (by decide +kernel)) rfl) pa_nil))) (pa_cons (pe_callB (call_isP kd.c hp ep) (by rfl) mi PyProof.Rows.boot_isinstance (pa_cons (pv 0) (pa_cons (pe_glob (v := .ref (cl "NoText")) rfl (gg "NoText" (by decide +kernel)) rfl) pa_nil))) pa_nil)))))))
    (pss_cons (ps_set (i := 1) scKi.nd rfl (Or.inl rfl) (pe_op op_cat (pv 1) (pe_lst (pa_cons (pe_callB (call_isP kd.c hp ep) (by rfl) mi PyProof.Rows.boot_isinstance (pa_cons (pv 0) (pa_cons (pe_glob (v := .ref (cl "NoTree")) rfl (gg "NoTree" (by decide +kernel)) rfl) pa_nil))) (pa_cons (pe_callB (call_isP kd.c hp ep) (by rfl) mi PyProof.Rows.boot_isinstance (pa_cons (pv 0) (pa_cons (pe_glob (v := .ref (cl "NoWorths")) rfl (gg "NoWorths" (by decide +kernel)) rfl) pa_nil))) (pa_cons (pe_callB (call_isP kd.c hp ep) (by rfl) mi PyProof.Rows.boot_isinstance (pa_cons (pv 0) (pa_cons (pe_glob (v := .ref (cl "NotNow")) rfl (gg "NotNow" (by decide +kernel)) rfl) pa_nil))) (pa_cons (pe_callB (call_isP kd.c hp ep) (by rfl) mi PyProof.Rows.boot_isinstance (pa_cons (pv 0) (pa_cons (pe_glob (v := .ref (cl "NotThere")) rfl (gg "NotThere" (by decide +kernel)) rfl) pa_nil))) pa_nil)))))))
    (pss_cons (ps_set (i := 1) scKi.nd rfl (Or.inl rfl) (pe_op op_cat (pv 1) (pe_lst (pa_cons (pe_callB (call_isP kd.c hp ep) (by rfl) mi PyProof.Rows.boot_isinstance (pa_cons (pv 0) (pa_cons (pe_glob (v := .ref (cl "NothingLeft")) rfl (gg "NothingLeft" (by decide +kernel)) rfl) pa_nil))) (pa_cons (pe_callB (call_isP kd.c hp ep) (by rfl) mi PyProof.Rows.boot_isinstance (pa_cons (pv 0) (pa_cons (pe_glob (v := .ref (cl "TooDeep")) rfl (gg "TooDeep" (by decide +kernel)) rfl) pa_nil))) (pa_cons (pe_callB (call_isP kd.c hp ep) (by rfl) mi PyProof.Rows.boot_isinstance (pa_cons (pv 0) (pa_cons (pe_glob (v := .ref (cl "TooMany")) rfl (gg "TooMany" (by decide +kernel)) rfl) pa_nil))) pa_nil))))))
    (pss_cons (ps_set (i := 1) scKi.nd rfl (Or.inl rfl) (pe_op op_cat (pv 1) (pe_lst (pa_cons (pe_callB (call_isP kd.c hp ep) (by rfl) mi PyProof.Rows.boot_isinstance (pa_cons (pv 0) (pa_cons (pe_glob (v := .ref (cl "Unsound")) rfl (gg "Unsound" (by decide +kernel)) rfl) pa_nil))) (pa_cons (pe_callB (call_isP kd.c hp ep) (by rfl) mi PyProof.Rows.boot_isinstance (pa_cons (pv 0) (pa_cons (pe_bltn (v := .ty "ValueError") rfl mv (by decide +kernel) rfl) pa_nil))) pa_nil)))))
    (pss_cons (ps_set (i := 2) scKi.nd rfl (Or.inl rfl) (pe_lst (pa_cons pe_str (pa_cons pe_str (pa_cons pe_str (pa_cons pe_str (pa_cons pe_str (pa_cons pe_str (pa_cons pe_str (pa_cons pe_str (pa_cons pe_str pa_nil)))))))))))
    (pss_cons (ps_set (i := 2) scKi.nd rfl (Or.inl rfl) (pe_op op_cat (pv 2) (pe_lst (pa_cons pe_str (pa_cons pe_str (pa_cons pe_str (pa_cons pe_str (pa_cons pe_str (pa_cons pe_str (pa_cons pe_str (pa_cons pe_str pa_nil)))))))))))
    (pss_one (ps_ret (pe_join pe_str (pe_lcQ (own := [("word", 3), ("one", 4)]) (g := gTup K 2 (gCons (gName 3) (gCons (gName 4) gNil))) hotX hp scKi.nd (pi_zipQ rfl mz (pa_cons (pv 2) (pa_cons (pv 1) pa_nil))) (blkOk_by (N := nKi) (sc := defScope sKindOf) (by decide +kernel)) (fun _ _ _ _ _ e1 e2 e3 e4 => pg_tupQ (blk_hot hotX e1 e2 e3 e4) (pgs_cons (pg_name (i := 3) scKi.nd rfl (Or.inl rfl)) (pgs_cons (pg_name (i := 4) scKi.nd rfl (Or.inl rfl)) pgs_nil))) (fun _ _ _ _ _ => pts_one (pt_val (pv 4))) (fun _ _ _ _ _ => (pv 3))))))))))))), ?_⟩
  have kx : ∀ n, n ∈ clsN → ∃ b, PySem.W.kitOne K (.ref D) (.ref (cl n)) = some b := kd.all
  obtain ⟨b2, k2⟩ := kx "NoBlock" (by decide +kernel)
  obtain ⟨b3, k3⟩ := kx "NoCode" (by decide +kernel)
  obtain ⟨b4, k4⟩ := kx "NoForm" (by decide +kernel)
  obtain ⟨b5, k5⟩ := kx "NoLine" (by decide +kernel)
  obtain ⟨b6, k6⟩ := kx "NoMark" (by decide +kernel)
  obtain ⟨b7, k7⟩ := kx "NoProgram" (by decide +kernel)
  obtain ⟨b8, k8⟩ := kx "NoText" (by decide +kernel)
  obtain ⟨b9, k9⟩ := kx "NoTree" (by decide +kernel)
  obtain ⟨b10, k10⟩ := kx "NoWorths" (by decide +kernel)
  obtain ⟨b11, k11⟩ := kx "NotNow" (by decide +kernel)
  obtain ⟨b12, k12⟩ := kx "NotThere" (by decide +kernel)
  obtain ⟨b13, k13⟩ := kx "NothingLeft" (by decide +kernel)
  obtain ⟨b14, k14⟩ := kx "TooDeep" (by decide +kernel)
  obtain ⟨b15, k15⟩ := kx "TooMany" (by decide +kernel)
  obtain ⟨b16, k16⟩ := kx "Unsound" (by decide +kernel)
  obtain ⟨b17, k17⟩ := kd.ve
  refine ⟨_, rfl, _, _, true, fs, rfl, fun u r => r, hd, kd.bad, _, rfl, _, _, b2, fs, rfl, fun u r => r, hd, k2, _, rfl, _, _, b3, fs, rfl, fun u r => r, hd, k3, _, rfl, _, _, b4, fs, rfl, fun u r => r, hd, k4, by show 4 ≤ sizeLine; decide, fun p1 h1 => ?_⟩
  have s1 := Same.new h1 (.lst [.bl true, .bl b2, .bl b3, .bl b4])
  have l1 := upd_same (H := H) (a := p1) (o := .lst [.bl true, .bl b2, .bl b3, .bl b4])
  generalize upd H p1 (.lst [.bl true, .bl b2, .bl b3, .bl b4]) = H1 at s1 l1 ⊢
  refine ⟨_, rfl, _, rfl, _, _, b5, fs, rfl, fun u r => r, s1 _ _ hd, k5, _, rfl, _, _, b6, fs, rfl, fun u r => r, s1 _ _ hd, k6, _, rfl, _, _, b7, fs, rfl, fun u r => r, s1 _ _ hd, k7, _, rfl, _, _, b8, fs, rfl, fun u r => r, s1 _ _ hd, k8, by show 4 ≤ sizeLine; decide, fun q2 g2 => ?_⟩
  have t2 := s1.trans (Same.new g2 (.lst [.bl b5, .bl b6, .bl b7, .bl b8]))
  have m2 := (Same.new g2 (.lst [.bl b5, .bl b6, .bl b7, .bl b8])) _ _ l1
  refine ⟨p1, q2, _, _, rfl, rfl, m2, upd_same, by show 8 ≤ sizeLine; decide, fun p2 h2 => ?_⟩
  have s2 := t2.trans (Same.new h2 (.lst ([.bl true, .bl b2, .bl b3, .bl b4] ++ [.bl b5, .bl b6, .bl b7, .bl b8])))
  have l2 : upd (upd H1 q2 (.lst [.bl b5, .bl b6, .bl b7, .bl b8])) p2 (.lst ([.bl true, .bl b2, .bl b3, .bl b4] ++ [.bl b5, .bl b6, .bl b7, .bl b8])) p2 = some (.lst [.bl true, .bl b2, .bl b3, .bl b4, .bl b5, .bl b6, .bl b7, .bl b8]) := upd_same
  generalize upd (upd H1 q2 (.lst [.bl b5, .bl b6, .bl b7, .bl b8])) p2 (.lst ([.bl true, .bl b2, .bl b3, .bl b4] ++ [.bl b5, .bl b6, .bl b7, .bl b8])) = H2 at s2 l2 ⊢
  refine ⟨_, rfl, _, rfl, _, _, b9, fs, rfl, fun u r => r, s2 _ _ hd, k9, _, rfl, _, _, b10, fs, rfl, fun u r => r, s2 _ _ hd, k10, _, rfl, _, _, b11, fs, rfl, fun u r => r, s2 _ _ hd, k11, _, rfl, _, _, b12, fs, rfl, fun u r => r, s2 _ _ hd, k12, by show 4 ≤ sizeLine; decide, fun q3 g3 => ?_⟩
  have t3 := s2.trans (Same.new g3 (.lst [.bl b9, .bl b10, .bl b11, .bl b12]))
  have m3 := (Same.new g3 (.lst [.bl b9, .bl b10, .bl b11, .bl b12])) _ _ l2
  refine ⟨p2, q3, _, _, rfl, rfl, m3, upd_same, by show 12 ≤ sizeLine; decide, fun p3 h3 => ?_⟩
  have s3 := t3.trans (Same.new h3 (.lst ([.bl true, .bl b2, .bl b3, .bl b4, .bl b5, .bl b6, .bl b7, .bl b8] ++ [.bl b9, .bl b10, .bl b11, .bl b12])))
  have l3 : upd (upd H2 q3 (.lst [.bl b9, .bl b10, .bl b11, .bl b12])) p3 (.lst ([.bl true, .bl b2, .bl b3, .bl b4, .bl b5, .bl b6, .bl b7, .bl b8] ++ [.bl b9, .bl b10, .bl b11, .bl b12])) p3 = some (.lst [.bl true, .bl b2, .bl b3, .bl b4, .bl b5, .bl b6, .bl b7, .bl b8, .bl b9, .bl b10, .bl b11, .bl b12]) := upd_same
  generalize upd (upd H2 q3 (.lst [.bl b9, .bl b10, .bl b11, .bl b12])) p3 (.lst ([.bl true, .bl b2, .bl b3, .bl b4, .bl b5, .bl b6, .bl b7, .bl b8] ++ [.bl b9, .bl b10, .bl b11, .bl b12])) = H3 at s3 l3 ⊢
  refine ⟨_, rfl, _, rfl, _, _, b13, fs, rfl, fun u r => r, s3 _ _ hd, k13, _, rfl, _, _, b14, fs, rfl, fun u r => r, s3 _ _ hd, k14, _, rfl, _, _, b15, fs, rfl, fun u r => r, s3 _ _ hd, k15, by show 3 ≤ sizeLine; decide, fun q4 g4 => ?_⟩
  have t4 := s3.trans (Same.new g4 (.lst [.bl b13, .bl b14, .bl b15]))
  have m4 := (Same.new g4 (.lst [.bl b13, .bl b14, .bl b15])) _ _ l3
  refine ⟨p3, q4, _, _, rfl, rfl, m4, upd_same, by show 15 ≤ sizeLine; decide, fun p4 h4 => ?_⟩
  have s4 := t4.trans (Same.new h4 (.lst ([.bl true, .bl b2, .bl b3, .bl b4, .bl b5, .bl b6, .bl b7, .bl b8, .bl b9, .bl b10, .bl b11, .bl b12] ++ [.bl b13, .bl b14, .bl b15])))
  have l4 : upd (upd H3 q4 (.lst [.bl b13, .bl b14, .bl b15])) p4 (.lst ([.bl true, .bl b2, .bl b3, .bl b4, .bl b5, .bl b6, .bl b7, .bl b8, .bl b9, .bl b10, .bl b11, .bl b12] ++ [.bl b13, .bl b14, .bl b15])) p4 = some (.lst [.bl true, .bl b2, .bl b3, .bl b4, .bl b5, .bl b6, .bl b7, .bl b8, .bl b9, .bl b10, .bl b11, .bl b12, .bl b13, .bl b14, .bl b15]) := upd_same
  generalize upd (upd H3 q4 (.lst [.bl b13, .bl b14, .bl b15])) p4 (.lst ([.bl true, .bl b2, .bl b3, .bl b4, .bl b5, .bl b6, .bl b7, .bl b8, .bl b9, .bl b10, .bl b11, .bl b12] ++ [.bl b13, .bl b14, .bl b15])) = H4 at s4 l4 ⊢
  refine ⟨_, rfl, _, rfl, _, _, b16, fs, rfl, fun u r => r, s4 _ _ hd, k16, _, rfl, _, _, b17, fs, rfl, fun u r => r, s4 _ _ hd, k17, by show 2 ≤ sizeLine; decide, fun q5 g5 => ?_⟩
  have t5 := s4.trans (Same.new g5 (.lst [.bl b16, .bl b17]))
  have m5 := (Same.new g5 (.lst [.bl b16, .bl b17])) _ _ l4
  refine ⟨p4, q5, _, _, rfl, rfl, m5, upd_same, by show 17 ≤ sizeLine; decide, fun p5 h5 => ?_⟩
  have s5 := t5.trans (Same.new h5 (.lst ([.bl true, .bl b2, .bl b3, .bl b4, .bl b5, .bl b6, .bl b7, .bl b8, .bl b9, .bl b10, .bl b11, .bl b12, .bl b13, .bl b14, .bl b15] ++ [.bl b16, .bl b17])))
  have l5 : upd (upd H4 q5 (.lst [.bl b16, .bl b17])) p5 (.lst ([.bl true, .bl b2, .bl b3, .bl b4, .bl b5, .bl b6, .bl b7, .bl b8, .bl b9, .bl b10, .bl b11, .bl b12, .bl b13, .bl b14, .bl b15] ++ [.bl b16, .bl b17])) p5 = some (.lst [.bl true, .bl b2, .bl b3, .bl b4, .bl b5, .bl b6, .bl b7, .bl b8, .bl b9, .bl b10, .bl b11, .bl b12, .bl b13, .bl b14, .bl b15, .bl b16, .bl b17]) := upd_same
  generalize upd (upd H4 q5 (.lst [.bl b16, .bl b17])) p5 (.lst ([.bl true, .bl b2, .bl b3, .bl b4, .bl b5, .bl b6, .bl b7, .bl b8, .bl b9, .bl b10, .bl b11, .bl b12, .bl b13, .bl b14, .bl b15] ++ [.bl b16, .bl b17])) = H5 at s5 l5 ⊢
  have hbs : H5 p5 = some (.lst ([true, b2, b3, b4, b5, b6, b7, b8, b9, b10, b11, b12, b13, b14, b15, b16, b17].map V.bl)) := l5
  generalize hB : ([true, b2, b3, b4, b5, b6, b7, b8, b9, b10, b11, b12, b13, b14, b15, b16, b17] : List Bool) = bs at hbs
  have hbs17 : bs.length = 17 := by rw [← hB]; rfl
  have hbs0 : bs[0]? = some true := by rw [← hB]; rfl
  refine ⟨by show 9 ≤ sizeLine; decide, fun w1 j1 => ?_⟩
  have u1 := s5.trans (Same.new j1 (.lst ((kindN.take 9).map V.str)))
  have v1 := upd_same (H := H5) (a := w1) (o := .lst ((kindN.take 9).map V.str))
  have hbs1 := (Same.new j1 (.lst ((kindN.take 9).map V.str))) _ _ hbs
  refine ⟨_, rfl, by show 8 ≤ sizeLine; decide, fun w2 j2 => ?_⟩
  have u2 := u1.trans (Same.new j2 (.lst ((kindN.drop 9).map V.str)))
  have v2 := (Same.new j2 (.lst ((kindN.drop 9).map V.str))) _ _ v1
  have hbs2 := (Same.new j2 (.lst ((kindN.drop 9).map V.str))) _ _ hbs1
  refine ⟨w1, w2, _, _, rfl, rfl, v2, upd_same, by show 17 ≤ sizeLine; decide, fun w3 j3 => ?_⟩
  have u3 := u2.trans (Same.new j3 (.lst (kindN.map V.str)))
  have v3 := upd_same (H := upd (upd H5 w1 (.lst ((kindN.take 9).map V.str))) w2 (.lst ((kindN.drop 9).map V.str))) (a := w3) (o := .lst (kindN.map V.str))
  have hbs3 := (Same.new j3 (.lst (kindN.map V.str))) _ _ hbs2
  have hHH : ∀ Hx, Same H Hx → Hx w3 = some (.lst (kindN.map V.str)) → Hx p5 = some (.lst (bs.map V.bl)) →
      (tRet (tM1 (fun x xs H Q => ∃ a p, ∃ ys : List Str, x = .str a ∧ xs = [.ref p] ∧ (SqL K H p (ys.map V.str) ∨ SqT K H p (ys.map V.str)) ∧ (ys.map (·.length)).sum + ys.length * a.length ≤ 16777216 ∧ Q (.str (Txt.join a ys)) H) (tC (.str " "))
        (tLc (iZipQ K (tCons (tVar 2) (tCons (tVar 1) tNil))) (gTup K 2 (gCons (gName 3) (gCons (gName 4) gNil))) (tB (tVar 4)) (tVar 3) [3, 4]))) { nx := fun _ H' => Q .non H', rt := Q } [some (.ref p.1), some (.ref p5), some (.ref w3), none, none] Hx := by
    intro H6 u3 v3 hbs3
    refine ⟨⟨_, rfl⟩, _, rfl, _, rfl, w3, p5, _, _, rfl, SqL.of v3, SqL.of hbs3, fun L hL => ?_⟩
    refine lc_it (walk_zipQ (K := K) (a := w3) (b := p5) (xs := kindN.map V.str) (ys := bs.map V.bl) (n := 17) (by decide) (by rw [List.length_map, hbs17])) (fun i H' => ∃ acc : List Str, H' L = some (.lst (acc.map V.str)) ∧ (0 < i → acc.head? = some "BadText") ∧ (i = 0 → acc = []) ∧ (∀ x ∈ acc, x.length ≤ 16) ∧ acc.length ≤ i ∧ Same H6 H')
      ⟨[], upd_same, by omega, fun _ => rfl, by simp, Nat.le_refl _, Same.new hL _⟩ (fun i H' _ e => by obtain ⟨acc, _, _, _, _, _, e⟩ := e; exact ⟨SqL.of (e _ _ v3), SqL.of (e _ _ hbs3)⟩) ?_ ?_
    · rintro i x H7 H8 hi ⟨acc, hacc, hhd, hz, hlen, hli, s7⟩ ⟨T, x1, y1, rfl, hT, rfl, ex, ey⟩
      have ex : (kindN.map V.str)[i]? = some x1 := ex
      have ey : (bs.map V.bl)[i]? = some y1 := ey
      rw [List.getElem?_map] at ex ey
      obtain ⟨wd, hwd, rfl⟩ := Option.map_eq_some_iff.mp ex
      obtain ⟨bb, hbb, rfl⟩ := Option.map_eq_some_iff.mp ey
      have hacc8 := (Same.new hT (.tup [.str wd, .bl bb])) _ _ hacc
      have s8 := s7.trans (Same.new hT (.tup [.str wd, .bl bb]))
      have hwl := kinds_len wd (List.mem_of_getElem? hwd)
      refine ⟨T, _, rfl, SqT.of upd_same, rfl, _, _, rfl, _, _, rfl, rfl, rfl, _, rfl, bb, rfl, ?_⟩
      cases bb with
      | false =>
        refine iteF ⟨acc, hacc8, fun _ => ?_, by omega, hlen, by omega, s8⟩
        by_cases h0 : i = 0
        · rw [h0, hbs0] at hbb; cases hbb
        · exact hhd (by omega)
      | true =>
        refine iteT ⟨_, rfl, acc.map V.str, hacc8, by rw [List.length_map, sizeLine_eq]; omega, acc ++ [wd], by rw [upd_same, List.map_append]; rfl, fun _ => ?_, by omega, ?_, by simp; omega, fun b o e => by rw [upd_ne (ne_of_none e hL)]; exact s8 _ _ e⟩
        · by_cases h0 : i = 0
          · rw [hz h0]
            rw [h0] at hwd
            have : wd = "BadText" := by
              have h5 : kindN[0]? = some ("BadText" : Str) := rfl
              rw [h5] at hwd
              exact (Option.some.inj hwd).symm
            rw [this]
            rfl
          · have h9 := hhd (by omega)
            cases acc with
            | nil => cases h9
            | cons y r => exact h9
        · intro x hx
          rcases List.mem_append.mp hx with h9 | h9
          · exact hlen x h9
          · rw [List.mem_singleton.mp h9]; exact hwl
    · rintro H7 ⟨acc, hacc, hhd, hz, hlen, hli, s7⟩
      have hsum : (acc.map (·.length)).sum ≤ 16 * acc.length := by
        clear hacc hhd hz hli
        induction acc with
        | nil => exact Nat.le_refl _
        | cons x r ih =>
          have h8 := hlen x (by simp)
          have := ih fun y hy => hlen y (List.mem_cons_of_mem _ hy)
          simp only [List.map_cons, List.sum_cons, List.length_cons]
          omega
      refine ⟨(" " : Str), L, acc, rfl, rfl, .inl (SqL.of hacc), by rw [show (" " : Str).length = 1 by decide +kernel]; omega, ?_⟩
      exact q _ H7 (u3.trans s7) (join_bad (hhd (by omega)))
  exact hHH _ u3 v3 hbs3
end
end TP
set_option maxRecDepth 100000
set_option maxHeartbeats 4000000
namespace TP
open PySem PySem.Spec PyProof.Rows L2 L2H HotX
def spRef (K : PySem.W.Frag) (cl : Str → Addr) (p : Addr × Obj) : Sp := fun vs H Q _ => ∃ (D d : Addr) (l c : Int), vs = [.ref p.1] ∧ ErrP D d p ∧ KindD K cl D ∧ H d = some (.xd (xfs l c)) ∧
  ∀ (T : Addr) (z : Str) (H' : Hp), Same H H' → z ≠ "told" → H' T = some (.tup [.str z, .int l, .int c]) → Q (.ref T) H'
section
variable {P : Program} {w : World} {K : PySem.W.Frag} {mg : Str → Option Value} {base : Heap}
theorem scRf : FnScope ["e"] ["e"] (defScope sRefusal) := ⟨rfl, rfl, rfl, by decide +kernel, rfl, by decide +kernel, by decide +kernel⟩
theorem ok_refusal {cl : Str → Addr} {f fK : Addr} {fd fdK : FuncData} (F : Fun K "_law_refusal" "_law_refusal" sRefusal f fd) (DK : Df K mg "_law_kind_of" sKindOf fK fdK ["e"]) (GK : FnP P w K mg base 1 fK fdK ["e"] (spKind K cl)) (G : ClsG mg cl) (mi : mg "isinstance" = none) :
    FnP P w K mg base 2 f fd ["e"] (spRef K cl) := by
  refine fn_ofP F scRf (fun p vs H Q E h => ?_) (fun cdv A outer s H vs Q E p hot hr h => ?_)
  · obtain ⟨D, d, l, c, rfl, _⟩ := h
    rfl
  obtain ⟨D, d, l, c, rfl, ep, kd, hd, q⟩ := h
  have hp : p ∈ (cxH CX0 P w K mg base ["e"] "_law_refusal" (defScope sRefusal) f cdv A outer s H E p).pn := List.mem_singleton.mpr rfl
  have hotX : Hot1 (cxH CX0 P w K mg base ["e"] "_law_refusal" (defScope sRefusal) f cdv A outer s H E p).A p := ⟨hot.1, hot.2⟩
  refine ⟨_, pss_cons (ps_if (pt_val (pe_callB (call_isP kd.c hp ep) (by rfl) mi PyProof.Rows.boot_isinstance (pa_cons (pv 0) (pa_cons (pe_glob (v := .ref (cl "BadText")) rfl (G "BadText" (by decide +kernel)) rfl) pa_nil))))
      (pss_one (ps_ret (pe_tup (pa_cons (pe_callP GK hr hotX hp rfl DK.g DK.F.kp DK.b (pa_cons (pv 0) pa_nil)) (pa_cons (pe_xfP kd.c kd.c.nl hp ep (pv 0)) (pa_cons (pe_xfP kd.c kd.c.nc hp ep (pv 0)) pa_nil)))))) pss_nil) pss_dead, ?_⟩
  refine ⟨_, rfl, _, _, true, _, rfl, fun u r => r, hd, kd.bad, true, rfl, iteT ?_⟩
  refine ⟨_, rfl, ?_⟩
  refine ⟨D, d, _, rfl, ep, kd, hd, fun z H1 s1 hz => ?_⟩
  have hd1 := s1 _ _ hd
  refine ⟨_, rfl, rfl, _, _, hd1, rfl, _, rfl, rfl, _, _, hd1, rfl, by show 3 ≤ sizeLine; decide, fun T hT => ?_⟩
  exact q T z _ (s1.trans (Same.new hT _)) hz upd_same
end
end TP
set_option maxRecDepth 100000
set_option maxHeartbeats 4000000
namespace TP
open PySem PySem.Spec PyProof.Rows L2 LamX
/-- the context of the lambda's body; its errors keep what they had of a context -/
def lamN (X : Cx) (A : Around) (outer : List Env) (s : Shared) (H : Hp) (E : XK) (scope : Scope) (f c' : Addr) : Cx :=
  (lamCx X A outer s H E scope f c').tr [] (fun e s' => wpAny (model X.prog X.w) (A.deeper (lamEnv X scope s.heap.objs.size f c')) (leaving (lamEnv X scope s.heap.objs.size f c') e) (fun _ s'' => L2N.CX X.prog X.w outer H s E e s'') (fun e' s'' => L2N.CX X.prog X.w outer H s E e' s'') s')
section
variable {X : Cx} {pins : List (Addr × Obj)} {σ : L2.St} {H HZ : Hp} {s s1 : Shared}
theorem pe_actN {CXg : CXT} {Eg : XK} {Ng : List Str} {qg : Str} {sg : Scope} {g f c' : Addr} {cdg pm ctv : Value} {params : Arguments} {body : Expr} {scope : Scope} {k i : Nat} {a : Str} {pn : List (Addr × Obj)} {xe : Value → Shared → Prop} {W : WX} {E : XK} {tb : TE} {p1 p2 : Pos}
    (I : Inv X pins σ H s) (L : LamS X.env.scope scope) (hf : s.heap.get? f = some (PySem.W.kla_obj "<lambda>" (X.env.qual ++ "<lambda>") params body scope (cloFrom X.env.cells scope.names []) pm c' ctv)) (hfn : H f = none) (hfr : f ∉ frs X.stack)
    (hbind : bindArgs (PySem.W.kla_fn "<lambda>" (X.env.qual ++ "<lambda>") params body scope (cloFrom X.env.cells scope.names []) pm (.ref c') ctv) ⟨[], []⟩ = pure [])
    (tk : L2N.Takes ((cxOf CXg X.prog X.w X.K X.mg X.base Ng qg sg g cdg X.A X.stack s H Eg).tr pn xe) W) (hr : Room (k + 1) (X.A.deeper (envOfC qg sg s.heap.objs.size g cdg)))
    (hbody : ∀ (A : Around) (outer : List Env) (s : Shared) (H : Hp), Room k (A.deeper (lamEnv X scope s.heap.objs.size f c')) → PE (lamN X A outer s H E scope f c') body tb)
    (hN : Ng[i]? = some a) (hv : Vis sg a) (hd : (a == ("__debug__" : Str)) = false := by decide) (hcd : (a == ("__classdict__" : Str)) = false := by decide) :
    PE ((cxOf CXg X.prog X.w X.K X.mg X.base Ng qg sg g cdg X.A X.stack s H Eg).tr pn xe) (.Call (.Name a p1) [] [] p2)
      (fun σZ HZ Q => σZ[i]? = some (some (.ref f)) ∧ HZ c' = some (CodeO c' (X.env.qual ++ "<lambda>")) ∧ (∀ cls d H', E cls d H' → W cls d σZ H') ∧ tb σ HZ Q) := by
  refine ⟨fun pinsZ sZ σZ HZ Q IZ h => ?_⟩
  obtain ⟨hs, hc, hW, ht⟩ := h
  refine wpAny_Call_Name_kw (thn ((pe_var (pos := p1) (i := i) hN hv hd hcd).run pinsZ sZ σZ HZ (fun v H1 => v = .ref f ∧ H1 = HZ) IZ ⟨.ref f, hs, rfl, rfl⟩) fun u s1 ⟨v, H1, I1, r1, q1⟩ => ?_)
  obtain ⟨ev, eH⟩ := q1
  subst ev
  rw [eH] at I1
  obtain rfl : u = Value.ref f := r1
  have of1 : s1.heap.get? f = some (PySem.W.kla_obj "<lambda>" (X.env.qual ++ "<lambda>") params body scope (cloFrom X.env.cells scope.names []) pm c' ctv) := I1.base.keep f _ hf hfn hfr (fun z => nomatch (show f ∈ ([] : List Addr) from z))
  refine PySem.W.callWith_F0 ⟨_, _, _, _, of1⟩ ?_
  have un : Un (frs X.stack) [] H HZ s.heap s1.heap := I1.base
  obtain ⟨⟨oc, vs, t, hoc, hdc, hvc⟩, _, _⟩ := I1.hok c' _ hc
  have rc : codeAny (model X.prog X.w) (X.A.deeper (envOfC qg sg s.heap.objs.size g cdg)) (.call (.ref f) ⟨[], []⟩) (CR (L2N.CX X.prog X.w) (envOfC qg sg s.heap.objs.size g cdg :: X.stack) X.prog X.w HZ s1 Q E) s1 := by
    refine PySem.W.kla_callFunE hr.depth of1 rfl L.co L.gen rfl ⟨c', oc, vs, t, rfl, hoc, hdc, hvc⟩ ?_
    rw [hbind]
    refine wpAny_pure (wpAny_newFunctionEnv (fun y hy => (L.own y hy).2) (fun y hy => absurd hy (by simp)) (fun h₁ hns hsb => ⟨I1.nolimit.fresh _ hsb, ?_⟩) L.kind)
    show codeAny _ _ (.expr body (lamEnv X scope s1.heap.objs.size f c')) _ _
    have kp : ∀ b o, s1.heap.get? b = some o → h₁.get? b = some o := fun b o e => hsb.extBut b o (Nat.ne_of_lt (Heap.lt_size e)) (Heap.get?_push_of_some _ e)
    have J0 : Inv (lamCx X (X.A.deeper (envOfC qg sg s.heap.objs.size g cdg)) (envOfC qg sg s.heap.objs.size g cdg :: X.stack) s1 HZ E scope f c') [] σ HZ { s1 with heap := h₁, toks := s1.toks + ([] : List (Str × Value)).length } :=
      lam_start2 I L I1.env0 hr.hd un hns kp
    have J : Inv (lamN X (X.A.deeper (envOfC qg sg s.heap.objs.size g cdg)) (envOfC qg sg s.heap.objs.size g cdg :: X.stack) s1 HZ E scope f c') [] σ HZ { s1 with heap := h₁, toks := s1.toks + ([] : List (Str × Value)).length } := J0.toTry _
    refine PySem.W.kla_codeExpr (wpAny_mono ((hbody _ _ s1 HZ (hr.deeper _)).run [] _ _ HZ Q J ht) (fun v s' hq => ?_) fun e s' hq => hq)
    obtain ⟨w', H', J', rv, q⟩ := hq
    exact ⟨w', H', J'.os, J'.bare, J'.base, J'.hok, rv, q⟩
  refine wpAny_call (codeAny_mono rc fun r s' hq => ?_)
  cases r with
  | error e => exact tk e s' (L2N.XE.of_call I1 (W := W) (E := E) hW hq)
  | ok fl =>
    cases fl with
    | ret u => exact I1.after hq
    | next => exact False.elim hq
    | brk => exact False.elim hq
    | cont => exact False.elim hq
/-- the def that calls what it got -/
def GivesN (X : Cx) (Ng : List Str) (x : Str) (sg : Scope) (g : Addr) (cdg : Value) (bg : List Stmt) (a : Str) (q : Str) (k : Nat) (TT : (XK → Hp → VK → Prop) → Hp → VK → Prop) : Prop :=
  ∀ (f c' : Addr) (s : Shared) (H : Hp) (Q : VK) (tl : XK → Hp → VK → Prop), Room k (X.A.deeper (envOfC x sg s.heap.objs.size g cdg)) →
    (∀ (W : WX) (pn : List (Addr × Obj)) (xe : Value → Shared → Prop) (E : XK) (p1 p2 : Pos), L2N.Takes ((cxOf C8.CX0 X.prog X.w X.K X.mg X.base Ng x sg g cdg X.A X.stack s H C8.E0).tr pn xe) W →
      PE ((cxOf C8.CX0 X.prog X.w X.K X.mg X.base Ng x sg g cdg X.A X.stack s H C8.E0).tr pn xe) (.Call (.Name a p1) [] [] p2) (fun σZ HZ Q => σZ[0]? = some (some (.ref f)) ∧ HZ c' = some (CodeO c' q) ∧ (∀ cls d H', E cls d H' → W cls d σZ H') ∧ tl E HZ Q)) →
    H c' = some (CodeO c' q) → TT tl H Q →
    ∃ t, PSs (cxOf C8.CX0 X.prog X.w X.K X.mg X.base Ng x sg g cdg X.A X.stack s H C8.E0).nox bg t ∧ t { nx := fun _ H' => Q .non H', rt := Q } (L2.start Ng [.ref f]) H
theorem pe_lamcallN {T : List (Addr × Str)} {TT : (XK → Hp → VK → Prop) → Hp → VK → Prop} {x a : Str} {g c P : Addr} {k : Nat} {pg : Arguments} {bg : List Stmt} {sg : Scope} {dV kV doc pm cdv ct oc : Value} {an od : Option Addr} {osl : Array (Option Value)} {Ng : List Str}
    {params : Arguments} {body : Expr} {scope : Scope} {t : XK → TE} {p lpos pos : Pos} (hg : Gl X x) (hm : X.mg x = some (.ref g)) (hk : PySem.W.keepIn X.K (.ref g) = true)
    (lk : X.K.lookup g = some ⟨oc, od, .func (PySem.W.fnOf x x pg bg sg dV kV doc pm an cdv ct), osl⟩) (hcg : PySem.W.codeIn X.K cdv x = true) (hb : L2.Binds X.K (PySem.W.fnOf x x pg bg sg dV kV doc pm an cdv ct) [a] []) (Sg : FnScope Ng [a] sg) (hNg : Ng[0]? = some a) (hva : Vis sg a)
    (hG : GivesN X Ng x sg g cdv bg a (X.env.qual ++ "<lambda>") (k + 1) TT)
    (TB : TabB X.base X.mg c P) (hcode : X.env.code = .ref c) (hmT : (P, X.env.qual ++ "<lambda>") ∈ T) (hu : ∀ p ∈ T, p.1 = P → p.2 = X.env.qual ++ "<lambda>") (hr : Room (k + 2) X.A) (L : LamS X.env.scope scope) (hdef : defaultsOf params X.env = ([], []))
    (hbind : ∀ (q : Str) (cl : List (Str × Addr)) (pm cv ctv : Value), bindArgs (PySem.W.kla_fn "<lambda>" q params body scope cl pm cv ctv) ⟨[], []⟩ = pure [])
    (hbody : ∀ (A : Around) (outer : List Env) (s : Shared) (H : Hp) (E : XK) (f c' : Addr), Room k (A.deeper (lamEnv X scope s.heap.objs.size f c')) → PE (lamN X A outer s H E scope f c') body (t E))
    (hdb : (x == ("__debug__" : Str)) = false := by decide) (hd : (a == ("__debug__" : Str)) = false := by decide) (hcd : (a == ("__classdict__" : Str)) = false := by decide) :
    PE X (.Call (.Name x p) [.Lambda params body scope lpos] [] pos) (tLam T TT t) := by
  refine ⟨fun pins s σ H Q I h => ?_⟩
  obtain ⟨hT, h⟩ := h
  refine wpAny_Call_Name_kw (ld_glob I hg hm ?_ hdb)
  refine PySem.W.callWith_K (h₀ := X.base) I.ok.mod.kin hk ?_ (by rfl) (by rfl)
  show wpAny _ _ (spliced ((false, eval (.Lambda params body scope lpos) X.env) :: backTo pos (starEach [] X.env))) _ _ s
  refine Calls.spliced_cons (lam_make2 I TB hcode hmT hu hT hdef (L.has I.ok) fun f c' pm' ctv H1 s' I1 eN T1 hf hfn hfr hco => ?_)
  refine Calls.spliced_nil ⟨I1.kIn, ?_⟩
  have rc : codeAny (model X.prog X.w) X.A (.call (.ref g) ⟨[.ref f], []⟩) (CR C8.CX0 X.stack X.prog X.w H1 s' Q C8.E0) s' := by
    refine run_ofS (N := Ng) (ps := [a]) (us := [.ref f]) (vs := [.ref f]) lk hcg Sg hr I1.env0 (hb s' [.ref f] I1.kIn rfl) (.cons rfl .nil) rfl fun hr' => ?_
    obtain ⟨t', ht', hq'⟩ := hG f c' s' H1 Q (fun E H' Q' => t E σ H' Q') hr' (fun W pn xe E p1 p2 tk => pe_actN (i := 0) I1 L hf hfn hfr (hbind _ _ _ _ _) tk hr' (fun A outer s H hr2 => hbody A outer s H E f c' hr2) hNg hva hd hcd) hco (h H1 eN T1)
    exact ⟨t', ht'.nox, hq'⟩
  refine wpAny_call (codeAny_mono rc fun r s2 hq => ?_)
  cases r with
  | error e => exact (show False from hq).elim
  | ok fl =>
    cases fl with
    | ret u => exact I1.after hq
    | next => exact False.elim hq
    | brk => exact False.elim hq
    | cont => exact False.elim hq
end
end TP
set_option maxRecDepth 100000
set_option maxHeartbeats 4000000
namespace TP
open PySem PySem.Spec PyProof.Rows L2 LamX L2H HotX
theorem takes0N {X : Cx} : L2N.Takes X (fun _ _ _ _ => False) := fun _ _ x => by
  obtain ⟨_, _, _, _, _, _, _, _, _, _, _, _, _, _, _, _, z⟩ := x
  exact z.elim
abbrev nTo : List Str := ["deed", "found", "e"]
theorem scTo : FnScope nTo ["deed"] (defScope sTold) := ⟨rfl, rfl, rfl, by decide +kernel, rfl, by decide +kernel, by decide +kernel⟩
/-- ("told", what came), or what tells of the error -/
def TToldN (K : PySem.W.Frag) (cl : Str → Addr) (CS : Addr) : (XK → Hp → VK → Prop) → Hp → VK → Prop := fun tl H Q =>
  ∀ f : Addr, tl (fun cls d H' => ∃ (D0 d0 : Addr) (l c : Int), cls = .ref D0 ∧ d = some d0 ∧ KindD K cl D0 ∧ PySem.W.exmOne K cls (.ref CS) = some true ∧ H' d0 = some (.xd (xfs l c)) ∧
    ∀ (T : Addr) (z : Str) (H'' : Hp), Same H' H'' → z ≠ "told" → H'' T = some (.tup [.str z, .int l, .int c]) → Q (.ref T) H'') H
  (fun v H1 => 2 ≤ sizeLine ∧ ∀ p, H1 p = none → ∃ x, ([some (V.ref f), some (V.ref p), none] : L2.St)[1]? = some (some x) ∧ Q x (upd H1 p (.tup [.str "told", v])))
theorem told_givesN {X : Cx} {cl : Str → Addr} {g CS fR : Addr} {fdR : FuncData} {cdg : Value} {q : Str} {k : Nat} (hk2 : 2 ≤ k) (hme : X.mg "TierError" = some (.ref CS)) (DR : Df X.K X.mg "_law_refusal" sRefusal fR fdR ["e"]) (GR : FnP X.prog X.w X.K X.mg X.base 2 fR fdR ["e"] (spRef X.K cl)) :
    GivesN X nTo "_law_told" (defScope sTold) g cdg (defBody sTold) "deed" q k (TToldN X.K cl CS) := by
  intro f c' s H Q tl hr act hc h
  refine ⟨_, pss_cons (ps_set (i := 1) scTo.nd rfl (Or.inl rfl) pe_non)
    (pss_cons (L2N.ps_try_as (X := (cxOf C8.CX0 X.prog X.w X.K X.mg X.base nTo "_law_told" (defScope sTold) g cdg X.A X.stack s H C8.E0).nox) (c := .ref CS) (i := 2)
      (tb := fun W D σ H => ∃ Ech : XK, σ[0]? = some (some (.ref f)) ∧ H c' = some (CodeO c' q) ∧ (∀ cls d H', Ech cls d H' → W cls d σ H') ∧ tl Ech H (fun v H1 => 2 ≤ sizeLine ∧ ∀ p, H1 p = none → D.nx (σ.set 1 (some (.ref p))) (upd H1 p (.tup [.str "told", v]))))
      (ts := fun a cls d D σ H => ∃ (D0 d0 : Addr) (l c : Int), cls = .ref D0 ∧ d = some d0 ∧ KindD X.K cl D0 ∧ σ[2]? = some (some (.ref a)) ∧ H d0 = some (.xd (xfs l c)) ∧
        ∀ (T : Addr) (z : Str) (H' : Hp), Same H H' → z ≠ "told" → H' T = some (.tup [.str z, .int l, .int c]) → D.nx (σ.set 1 (some (.ref T))) H')
      rfl rfl scTo.nd rfl rfl ⟨rfl, by decide, .inl hme⟩ takes0N (fun W pn xe tk _ => ?_) (fun a oe cls d pn hz hf => ?_))
    (pss_one (ps_ret (pv 1)))), ?_⟩
  · refine ⟨fun pins s' σ H' D I h' => ?_⟩
    obtain ⟨Ech, h1, h2, h3, h4⟩ := h'
    refine PSs.run (t := tAsg (tTup (tCons (tC (.str "told")) (tCons (fun σZ HZ Q => σZ[0]? = some (some (.ref f)) ∧ HZ c' = some (CodeO c' q) ∧ (∀ cls d H', Ech cls d H' → W cls d σZ H') ∧ tl Ech HZ Q) tNil))) (gName 1)) ?hp pins s' σ H' D I ?hr
    case hp => exact pss_one (ps_set (i := 1) scTo.nd rfl (Or.inl rfl) (pe_tup (pa_cons pe_str (pa_cons (act W pn xe Ech _ _ tk) pa_nil))))
    case hr => exact ⟨h1, h2, h3, h4⟩
  · refine ⟨fun pins s' σ H' D I h' => ?_⟩
    obtain ⟨D0, d0, l, c, rfl, rfl, kd, h1, h2, h3⟩ := h'
    obtain ⟨vs, hv⟩ := hf
    have hot : Hot1 (((cxOf C8.CX0 X.prog X.w X.K X.mg X.base nTo "_law_told" (defScope sTold) g cdg X.A X.stack s H C8.E0).nox).suite a ((a, oe) :: pn)).A (a, oe) := ⟨rfl, vs, hv, hz.2.2 vs hv⟩
    refine PSs.run (t := tAsg (tCall (spRef X.K cl (a, oe)) [] (fun _ _ _ => False) (tCons (tVar 2) tNil)) (gName 1)) ?hp pins s' σ H' D I ?hr
    case hp => exact pss_one (ps_set (i := 1) scTo.nd rfl (Or.inl rfl) (pe_callP (X := ((cxOf C8.CX0 X.prog X.w X.K X.mg X.base nTo "_law_told" (defScope sTold) g cdg X.A X.stack s H C8.E0).nox).suite a ((a, oe) :: pn)) (p := (a, oe)) GR (roomH_mark (hr.mono hk2) _) hot List.mem_cons_self rfl DR.g DR.F.kp DR.b (pa_cons (pv 2) pa_nil)))
    case hr => exact ⟨_, h1, D0, d0, l, c, rfl, ⟨⟨hz.1, hz.2.1⟩, ⟨vs, hv⟩⟩, kd, h2, h3⟩
  · refine ⟨fun cls d H' => ∃ (D0 d0 : Addr) (l c : Int), cls = .ref D0 ∧ d = some d0 ∧ KindD X.K cl D0 ∧ PySem.W.exmOne X.K cls (.ref CS) = some true ∧ H' d0 = some (.xd (xfs l c)) ∧
      ∀ (T : Addr) (z : Str) (H'' : Hp), Same H' H'' → z ≠ "told" → H'' T = some (.tup [.str z, .int l, .int c]) → Q (.ref T) H'', rfl, hc, ?_, ?_⟩
    · rintro cls d H' ⟨D0, d0, l, c, rfl, rfl, kd, ek, hd, q⟩
      refine ⟨true, ek, fun _ a ha => ⟨D0, d0, l, c, rfl, rfl, kd, rfl, hd, fun T z H'' s1 hz hT => ⟨_, rfl, q T z H'' s1 hz hT⟩⟩, fun h => by cases h⟩
    · exact h f
end TP
set_option maxRecDepth 100000
set_option maxHeartbeats 4000000
namespace TP
open PySem PySem.Spec PyProof.Rows L2 LamX L2H HotX
theorem passF {X : Cx} : L2.Passes (L2N.CX X.prog X.w) X (fun _ _ _ => False) := fun _ _ _ _ _ _ _ h => by
  obtain ⟨_, _, _, _, _, _, _, _, _, _, _, _, z⟩ := h
  exact z.elim
theorem SqL.extN {K : PySem.W.Frag} {H H' : Hp} {a : Addr} {xs : List V} (h : SqL K H a xs) (e : ExtN H H') : SqL K H' a xs := by
  rcases h with h | h
  · rcases h with h | ⟨o, h⟩
    · exact .inl (.inl (e _ _ h (fun ps z => by cases z)))
    · exact .inl (.inr ⟨o, e _ _ h (fun ps z => by cases z)⟩)
  · exact .inr h
theorem SameX.fresh {H H' : Hp} {d : Addr} (g : SameX [d] H H') (h : H d = Option.none) : Same H H' := fun b o e => g b o e (by simpa using ne_of_none e h)
abbrev nLw : List Str := ["script", "k", "draws", "program", "heads", "text", "due", "found"]
def lamQ : Str := ("law" : Str) ++ ".<locals>." ++ "<lambda>"
def spLaw (K : PySem.W.Frag) (P : Addr) : Sp := fun vs H Q _ => ∃ (a : Addr) (ns : List Int), vs = [.ref a] ∧ ns.length ≤ 63 ∧ SqL K H a (ns.map V.int) ∧ H P = some (.tbl #[]) ∧ ∀ H', Q (.bl true) H'
theorem scLaw : FnScope nLw ["script"] (defScope sLaw) := ⟨rfl, rfl, rfl, by decide +kernel, rfl, by decide +kernel, by decide +kernel⟩
section
variable {P : Program} {w : World} {K : PySem.W.Frag} {mg : Str → Option Value} {base : Heap}
/-- the defs that the law calls -/
structure Big (P : Program) (w : World) (K : PySem.W.Frag) (mg : Str → Option Value) (base : Heap) (cl : Str → Addr) (CM CN CT CS : Addr) (fDs fLe fWr fLd fIs fCo fTo fRf : Addr) (dDs dLe dWr dLd dIs dCo dTo dRf : FuncData) : Prop where
  Ds : Df K mg "_law_draws" sDraws fDs dDs ["script", "k"]
  Le : Df K mg "_law_lean" sLean fLe dLe ["draws"]
  Wr : Df K mg "_law_written" sWritten fWr dWr ["draws", "program"]
  Ld : Df K mg "laid" sLaid fLd dLd ["text"]
  Is : Df K mg "_law_is_laid" sIsLaid fIs dIs ["text", "found"]
  Co : Df K mg "_law_columns_text" sColumns fCo dCo ["draws"]
  To : Df K mg "_law_told" sTold fTo dTo ["deed"]
  Rf : Df K mg "_law_refusal" sRefusal fRf dRf ["e"]
  gDs : FnOk P w K mg base CX0 1 fDs dDs ["script", "k"] (spDraws K)
  gLe : FnOk P w K mg base CX0 3 fLe dLe ["draws"] spLean
  gWr : FnOk P w K mg base CX0 23 fWr dWr ["draws", "program"] spWritten
  gLd : FnOk P w K mg base (L2N.CX P w) 6 fLd dLd ["text"] (spLaid CM CN CT)
  gIs : FnOk P w K mg base (L2N.CX P w) 5 fIs dIs ["text", "found"] spIs
  gCo : FnOk P w K mg base CX0 2 fCo dCo ["draws"] spCols
  gRf : FnP P w K mg base 2 fRf dRf ["e"] (spRef K cl)
  te : mg "TierError" = some (.ref CS)
  km : KindD K cl CM
  kn : KindD K cl CN
  kt : KindD K cl CT
  em : PySem.W.exmOne K (.ref CM) (.ref CS) = some true
  en : PySem.W.exmOne K (.ref CN) (.ref CS) = some true
  et : PySem.W.exmOne K (.ref CT) (.ref CS) = some true
theorem ok_law {cl : Str → Addr} {CM CN CT CS fDs fLe fWr fLd fIs fCo fTo fRf : Addr} {dDs dLe dWr dLd dIs dCo dTo dRf : FuncData} {f c Pt : Addr} {fd : FuncData} (F : Fun K "law" "law" sLaw f fd) (hcd0 : fd.code = .ref c) (TB : TabB base mg c Pt)
    (T : Big P w K mg base cl CM CN CT CS fDs fLe fWr fLd fIs fCo fTo fRf dDs dLe dWr dLd dIs dCo dTo dRf) (mr : mg "range" = none) (ml : mg "len" = none) (mx : mg "max" = none) (mn : mg "min" = none) : FnOk P w K mg base CX0 25 f fd ["script"] (spLaw K Pt) := by
  obtain ⟨oc, od, kV, doc, pm, an, cdv, ct, osl, rfl, lk, hcd⟩ := F.ex
  have hcdv : cdv = .ref c := hcd0
  subst hcdv
  refine fn_of (CX := CX0) lk hcd scLaw (fun vs H Q E h => ?_) (fun A outer s H vs Q E hr h => ?_)
  · obtain ⟨a, ns, rfl, _⟩ := h
    rfl
  obtain ⟨a, ns, rfl, hn63, ha, hP, q⟩ := h
  have hr1 : Room 1 _ := hr.mono (by omega)
  have hr2 : Room 2 _ := hr.mono (by omega)
  have hr3 : Room 3 _ := hr.mono (by omega)
  have hr5 : Room 5 _ := hr.mono (by omega)
  have hr6 : Room 6 _ := hr.mono (by omega)
  have hr8 : Room 8 _ := hr.mono (by omega)
  have hr23 : Room 23 _ := hr.mono (by omega)
  obtain ⟨toc, tod, tkV, tdoc, tpm, tan, tcdv, tct, tosl, tfd, tlk, thcd⟩ := T.To.F.ex
  subst tfd
  refine ⟨_, PSs.nox (pss_cons (ps_for PassesOwn.never rfl (pi_range1 rfl mr (pa_cons (pe_callB (call_max2 rfl) (by rfl) mx PyProof.Rows.boot_max (pa_cons pe_int (pa_cons (pe_callB (call_min2 rfl) (by rfl) mn PyProof.Rows.boot_min (pa_cons pe_int (pa_cons (pe_callB call_len_seq (by rfl) ml PySem.boot_len (pa_cons (pv 0) pa_nil)) pa_nil))) pa_nil))) pa_nil)) (pg_name (i := 1) scLaw.nd rfl (Or.inl rfl)) (pss_cons (ps_set (i := 2) scLaw.nd rfl (Or.inl rfl) (pe_call T.gDs hr1 rfl T.Ds.g T.Ds.F.kp T.Ds.b .nil pass0 (pa_cons (pv 0) (pa_cons (pv 1) pa_nil))))
    (pss_cons (ps_asg (pe_call T.gLe hr3 rfl T.Le.g T.Le.F.kp T.Le.b .nil pass0 (pa_cons (pv 2) pa_nil)) (pg_tup rfl (pgs_cons (pg_name (i := 3) scLaw.nd rfl (Or.inl rfl)) (pgs_cons (pg_name (i := 4) scLaw.nd rfl (Or.inl rfl)) pgs_nil))))
    (pss_cons (ps_asg (pe_call T.gWr hr23 rfl T.Wr.g T.Wr.F.kp T.Wr.b .nil pass0 (pa_cons (pv 2) (pa_cons (pv 3) pa_nil))) (pg_tup rfl (pgs_cons (pg_name (i := 5) scLaw.nd rfl (Or.inr rfl)) (pgs_cons (pg_name (i := 6) scLaw.nd rfl (Or.inl rfl)) pgs_nil))))
    (pss_cons (ps_if (pt_not (pt_val (pe_call T.gIs hr5 rfl T.Is.g T.Is.F.kp T.Is.b .nil passF (pa_cons (pv 5) (pa_cons (pe_call T.gLd hr6 rfl T.Ld.g T.Ld.F.kp T.Ld.b .nil passF (pa_cons (pv 5) pa_nil)) pa_nil))))) (pss_one (ps_ret pe_bl)) pss_nil)
    (pss_cons (ps_asg (pe_call T.gCo hr2 rfl T.Co.g T.Co.F.kp T.Co.b .nil pass0 (pa_cons (pv 2) pa_nil)) (pg_tup rfl (pgs_cons (pg_name (i := 5) scLaw.nd rfl (Or.inr rfl)) (pgs_cons (pg_name (i := 6) scLaw.nd rfl (Or.inl rfl)) pgs_nil))))
    (pss_cons (ps_set (i := 7) scLaw.nd rfl (Or.inl rfl) (pe_lamcallN (k := 6) (c := c) (P := Pt) (T := [(Pt, lamQ)]) (TT := TToldN K cl CS) (t := fun E => tCall (spLaid CM CN CT) [] E (tCons (tVar 5) tNil)) rfl T.To.g T.To.F.kp tlk thcd T.To.b scTo rfl (Or.inl rfl) (told_givesN (by decide) T.te T.Rf T.gRf) TB rfl (List.mem_singleton.mpr rfl) (fun p hp _ => by rw [List.mem_singleton.mp hp]; rfl) hr8 (lamS_by (sc := defScope sLaw) (by decide +kernel)) rfl (fun _ _ _ _ _ => rfl) (fun A outer s H E f c' hrr => pe_call (X := lamN _ A outer s H E _ f c') T.gLd hrr rfl T.Ld.g T.Ld.F.kp T.Ld.b .nil (L2N.passes_call (L2N.takes_of rfl rfl rfl rfl) fun _ _ _ _ h => h) (pa_cons (pv 5) pa_nil))))
    (pss_one (ps_if (PW.pt (pw_and (pt_cmpR op_eq (pe_ix ix_tup (pv 7) pe_int (fun _ _ => rfl)) pe_str (nomark _)) (pw_and1 (pt_not (pt_val (pe_call T.gIs hr5 rfl T.Is.g T.Is.F.kp T.Is.b .nil passF (pa_cons (pv 5) (pa_cons (pe_ix ix_tup (pv 7) pe_int (fun _ _ => rfl)) pa_nil)))))))) (pss_one (ps_ret pe_bl)) pss_nil)))))))))
    (pss_one (ps_ret pe_bl))), ?_⟩
  have tabS : ∀ {H1 H2 : Hp}, Tabs [(Pt, lamQ)] H1 → Same H1 H2 → Tabs [(Pt, lamQ)] H2 := fun t e => Tabs.ext t e
  have T0 : Tabs [(Pt, lamQ)] H := fun p hp => by
    rw [List.mem_singleton.mp hp]
    exact TabS.nil hP
  refine ⟨_, rfl, a, _, rfl, .inl ha, _, _, rfl, _, _, rfl, ?_⟩
  rw [List.length_map]
  obtain ⟨m, hm, hm12⟩ : ∃ m : Int, m = (if (if ((ns.length : Nat) : Int) < 12 then ((ns.length : Nat) : Int) else 12) > 1 then (if ((ns.length : Nat) : Int) < 12 then ((ns.length : Nat) : Int) else 12) else 1) ∧ 0 ≤ m ∧ m ≤ 12 := by
    refine ⟨_, rfl, ?_, ?_⟩ <;> (split <;> (try split) <;> omega)
  refine ⟨m, by rw [hm], by omega, by omega, ?_⟩
  refine for_range (lo := 0) (n := m.toNat) (fun i σ H' => ∃ (v1 v2 v3 v4 v5 v6 v7 : Option V), σ = [some (.ref a), v1, v2, v3, v4, v5, v6, v7] ∧ ExtN H H' ∧ Tabs [(Pt, lamQ)] H')
    ⟨none, none, none, none, none, none, none, rfl, ExtN.refl H, T0⟩ ?_ ?_
  · rintro i σ H0 hi ⟨v1, v2, v3, v4, v5, v6, v7, rfl, e0, t0⟩
    have hi12 : i < 12 := by omega
    refine ⟨_, rfl, _, rfl, nil_go ⟨a, ns, i, ?_, SqL.extN ha e0, by omega, fun d H1 s1 hd0 hd1 => ?_⟩⟩
    · show [V.ref a, V.int (0 + ((i : Nat) : Int))] ++ [] = _
      rw [Int.zero_add]
      rfl
    refine ⟨_, rfl, nil_go ⟨d, rfl, hd1, fun p pt vh ds H2 g2 hd2 hp hpt hl3 hds => ?_⟩⟩
    refine ⟨p, _, rfl, SqT.of hp, rfl, _, _, rfl, _, _, rfl, rfl, ?_⟩
    refine ⟨_, rfl, _, rfl, nil_go ⟨d, pt, ds, rfl, hd2, hpt, hl3, hds, fun z p3 v H3 hlaid hz g3 hd3 hp3 => ?_⟩⟩
    refine ⟨p3, _, rfl, SqT.of hp3, rfl, _, _, rfl, _, _, rfl, rfl, ?_⟩
    obtain ⟨fs0, hfs0⟩ := hlaid
    refine ⟨_, rfl, _, rfl, nil_go ⟨z, rfl, hz, fun fs hfs hsz p4 as H4 s4 hp4 hp4' hmk => ?_, fun hnone => by rw [hfs0] at hnone; cases hnone⟩⟩
    refine nil_go ⟨z, p4, as, fs, rfl, hz, hp4', hmk, laid_passes hfs, hsz, fun H5 s5 => ⟨true, rfl, ?_⟩⟩
    refine iteF ?_
    have hd5 : DrAt H5 d := hd3.keep (SameX.of (s4.trans s5)) (ex := []) (by simp)
    refine ⟨_, rfl, nil_go ⟨d, rfl, hd5, fun z2 p6 v6' H6 hz2 g6 hd6 hp6 => ?_⟩⟩
    refine ⟨p6, _, rfl, SqT.of hp6, rfl, _, _, rfl, _, _, rfl, rfl, ?_⟩
    have g16 : SameX [d] H1 H6 := ((g2.trans g3).trans (SameX.of (s4.trans s5))).trans g6
    have s06 : Same H0 H6 := ((SameX.of (ex := [d]) s1).trans g16).fresh hd0
    have e06 : ExtN H H6 := e0.trans (ExtN.of s06)
    refine ⟨tabS t0 s06, fun H7 e7 t7 f' => ?_⟩
    -- what stands behind a turn
    have fin : ∀ (z' : Str) (r : List V) (T1 : Addr) (H8 : Hp), Same H7 H8 → H8 T1 = some (.tup (.str z' :: r)) → z' ≠ "told" →
        (tIfS (tAnd (tTest (tOp rEq (tOp (rIxT K) (tVar 7) (tC (.int 0))) (tC (.str "told")))) (tNot (tB (tCall spIs [] (fun _ _ _ => False) (tCons (tVar 5) (tCons (tOp (rIxT K) (tVar 7) (tC (.int 1))) tNil)))))) (tRet (tC (.bl false))) tNext)
          { nx := fun σ H' => ∃ (v1 v2 v3 v4 v5 v6 v7 : Option V), σ = [some (.ref a), v1, v2, v3, v4, v5, v6, v7] ∧ ExtN H H' ∧ Tabs [(Pt, lamQ)] H', rt := Q } [some (.ref a), some (.int (0 + (i : Nat))), some (.ref d), some (.ref pt), some vh, some (.str z2), some v6', some (.ref T1)] H8 := by
      intro z' r T1 H8 s8 hT1 hz'
      refine ⟨_, rfl, T1, _, _, _, rfl, rfl, SqT.of hT1, at0 _ _, rfl, _, rfl, ?_⟩
      rw [str_dec, decide_eq_false hz']
      refine iteF ?_
      refine iteF ?_
      exact ⟨_, _, _, _, _, _, _, rfl, (e06.trans e7).trans (ExtN.of s8), tabS t7 s8⟩
    refine ⟨_, rfl, nil_go ⟨z2, rfl, by omega, fun fs hfs hsz p8 as H8 s8 hp8 hp8' hmk8 => ⟨by decide, fun pT hT => ⟨_, rfl, ?_⟩⟩, fun _ => ?_⟩⟩
    · have s9 := Same.new hT (.tup [.str "told", .ref p8])
      refine ⟨_, rfl, pT, _, _, _, rfl, rfl, SqT.of upd_same, at0 _ _, rfl, _, rfl, ?_⟩
      rw [str_dec, decide_eq_true rfl]
      refine iteT ?_
      refine ⟨_, rfl, _, rfl, pT, _, _, _, rfl, rfl, SqT.of upd_same, rfl, nil_go ⟨z2, p8, as, fs, rfl, by omega, s9 _ _ hp8', hmk8.same fun b xs e => s9 _ _ e, laid_passes hfs, hsz, fun H9 s10 => ⟨true, rfl, ?_⟩⟩⟩
      refine iteF ?_
      exact ⟨_, _, _, _, _, _, _, rfl, (e06.trans e7).trans (ExtN.of ((s8.trans s9).trans s10)), tabS t7 ((s8.trans s9).trans s10)⟩
    · refine ⟨fun dx H8 l c g8 hx => ⟨CM, dx, l, c, rfl, rfl, T.km, T.em, hx, fun T1 z' H9 s9 hz' hT1 => ?_⟩, fun dx H8 l c g8 hx => ⟨CN, dx, l, c, rfl, rfl, T.kn, T.en, hx, fun T1 z' H9 s9 hz' hT1 => ?_⟩, fun dx H8 l c g8 hx => ⟨CT, dx, l, c, rfl, rfl, T.kt, T.et, hx, fun T1 z' H9 s9 hz' hT1 => ?_⟩⟩
      · exact fin z' _ T1 H9 (g8.same.trans s9) hT1 hz'
      · exact fin z' _ T1 H9 (g8.same.trans s9) hT1 hz'
      · exact fin z' _ T1 H9 (g8.same.trans s9) hT1 hz'
  · rintro σ H0 ⟨v1, v2, v3, v4, v5, v6, v7, rfl, e0, t0⟩
    exact q _
end
end TP
set_option maxRecDepth 100000
set_option maxHeartbeats 0
namespace TP
open PySem PySem.Spec PyProof.Rows L2
abbrev badI (K : PySem.W.Frag) : Addr := He.ma K (He.ga K "BadText") "__init__"
/-- an own class over ValueError, as the interpreter keeps it -/
def oexM (C : Addr) (mro : List Value) (sl : List (Option Value)) : Bool := match mro, sl with
  | .ref C' :: bm, [_, _, _, _, some (.builtin n), _] => decide (C' = C) && (decide (n = "ValueError.__new__") && PySem.HandSPX.refsVE bm)
  | _, _ => false
theorem oexM_ok {C : Addr} {mro : List Value} {sl : List (Option Value)} (h : oexM C mro sl = true) : ∃ (bm : List Value) (k0 k1 k2 k3 k5 : Option Value), mro = .ref C :: bm ∧ sl = [k0, k1, k2, k3, some (.builtin "ValueError.__new__"), k5] ∧ PySem.HandSPX.refsVE bm = true := by
  unfold oexM at h
  split at h
  · rename_i C' bm k0 k1 k2 k3 n k5
    obtain ⟨c1, h⟩ := He.ba h
    obtain ⟨c2, c3⟩ := He.ba h
    exact ⟨bm, k0, k1, k2, k3, k5, by rw [of_decide_eq_true c1], by rw [of_decide_eq_true c2], c3⟩
  · cases h
def oexO (C : Addr) (o : Obj) : Bool := match o with
  | ⟨.type t, _, .cls cd, sl⟩ => decide (t = "type") && (cd.hasDict && (!cd.hasDel && oexM C cd.mro sl.toList))
  | _ => false
def oexB (K : PySem.W.Frag) (C : Addr) : Bool := (match K.lookup C with
  | some o => oexO C o
  | none => false) && (He.eqO (PySem.W.findIn K (.ref C) "__setattr__") (some (some (.builtin "object.__setattr__"))) && (decide (PySem.W.subIn K (.ref C) (.type "BaseException") = some true) && (decide (PySem.W.typeIn K (.ref C) = some (.type "type")) && PySem.W.keepIn K (.ref C))))
theorem oexB_ok {K : PySem.W.Frag} {C : Addr} (h : oexB K C = true) : OexC K C := by
  obtain ⟨h1, h2⟩ := He.ba h
  obtain ⟨a1, h2⟩ := He.ba h2
  obtain ⟨a2, h2⟩ := He.ba h2
  obtain ⟨a3, a4⟩ := He.ba h2
  refine ⟨?_, He.eqO_ok a1, of_decide_eq_true a2, of_decide_eq_true a3, a4⟩
  cases q : K.lookup C with
  | none =>
    rw [q] at h1
    cases h1
  | some o =>
    rw [q] at h1
    have h1 : oexO C o = true := h1
    obtain ⟨oc, od, dt, osl⟩ := o
    cases oc with
    | type t =>
      cases dt with
      | cls cd =>
        have h1 : (decide (t = "type") && (cd.hasDict && (!cd.hasDel && oexM C cd.mro osl.toList))) = true := h1
        obtain ⟨b1, h1⟩ := He.ba h1
        obtain ⟨b2, h1⟩ := He.ba h1
        obtain ⟨b3, h1⟩ := He.ba h1
        obtain ⟨nm, bs, mro, N, qn, hd, sn, sub, ab, col, hdl⟩ := cd
        obtain ⟨bm, k0, k1, k2, k3, k5, e1, e2, e3⟩ := oexM_ok h1
        have f1 : t = "type" := of_decide_eq_true b1
        have f2 : hd = true := b2
        have f3 : hdl = false := by simpa using b3
        have f4 : osl = #[k0, k1, k2, k3, some (.builtin "ValueError.__new__"), k5] := by
          have := congrArg List.toArray e2
          simpa using this
        have f5 : mro = .ref C :: bm := e1
        subst f1 f2 f3 f4 f5
        exact ⟨nm, qn, N, bs, bm, sn, sub, ab, col, od, k0, k1, k2, k3, k5, rfl, e3⟩
      | _ => cases h1
    | _ => cases h1
def errB (K : PySem.W.Frag) (D : Str) : Bool :=
  oexB K (He.ga K D) && (He.eqO (PySem.W.findIn K (.ref (He.ga K D)) "__init__") (some (some (.ref (badI K)))) && (He.eqO (PySem.W.findIn K (.ref (He.ga K D)) "line") (some none) && (He.eqO (PySem.W.findIn K (.ref (He.ga K D)) "column") (some none) &&
  (He.eqO (PySem.W.findIn K (.ref (He.ga K D)) "__getattribute__") (some (some (.builtin "BaseException.__getattribute__"))) && (He.eqO (PySem.W.findIn K (.ref (He.ga K D)) "__getattr__") (some none) && (decide (PySem.W.subIn K (.ref (He.ga K D)) (.type "BaseException") = some true) && (PySem.W.hasDictIn K (He.ga K D) &&
  (He.eqO (PySem.W.findIn K (.ref (He.ga K D)) "__class__") (some (some (.builtin "object.__class__"))) && (He.eqO (PySem.W.specialIn K (.builtin "object.__class__") "__get__") (some (some (.builtin "getset_descriptor.__get__"))) && (decide (PySem.W.takesIn K (.builtin "object.__class__") = some true) && (decide (PySem.W.mroIn K (He.ga K D) (.type "object") = some true) &&
  (decide (PySem.W.kitOne K (.ref (He.ga K D)) (.ref (He.ga K "BadText")) = some true) && ((clsN.all fun n => (PySem.W.kitOne K (.ref (He.ga K D)) (.ref (He.ga K n))).isSome) && ((PySem.W.kitOne K (.ref (He.ga K D)) (.type "ValueError")).isSome && decide (PySem.W.exmOne K (.ref (He.ga K D)) (.ref (He.ga K "TierError")) = some true)))))))))))))))
structure ErrF (K : PySem.W.Frag) (D : Str) : Prop where
  o : OexC K (He.ga K D)
  i : PySem.W.findIn K (.ref (He.ga K D)) "__init__" = some (some (.ref (badI K)))
  nl : PySem.W.findIn K (.ref (He.ga K D)) "line" = some none
  nc : PySem.W.findIn K (.ref (He.ga K D)) "column" = some none
  k : KindD K (He.ga K) (He.ga K D)
  m : PySem.W.exmOne K (.ref (He.ga K D)) (.ref (He.ga K "TierError")) = some true
theorem errB_ok {K : PySem.W.Frag} {D : Str} (h : errB K D = true) : ErrF K D := by
  obtain ⟨a1, h⟩ := He.ba h
  obtain ⟨a2, h⟩ := He.ba h
  obtain ⟨a3, h⟩ := He.ba h
  obtain ⟨a4, h⟩ := He.ba h
  obtain ⟨a5, h⟩ := He.ba h
  obtain ⟨a6, h⟩ := He.ba h
  obtain ⟨a7, h⟩ := He.ba h
  obtain ⟨a8, h⟩ := He.ba h
  obtain ⟨a9, h⟩ := He.ba h
  obtain ⟨a10, h⟩ := He.ba h
  obtain ⟨a11, h⟩ := He.ba h
  obtain ⟨a12, h⟩ := He.ba h
  obtain ⟨a13, h⟩ := He.ba h
  obtain ⟨a14, h⟩ := He.ba h
  obtain ⟨a15, a16⟩ := He.ba h
  refine ⟨oexB_ok a1, He.eqO_ok a2, He.eqO_ok a3, He.eqO_ok a4, ⟨⟨⟨He.eqO_ok a5, He.eqO_ok a6, of_decide_eq_true a7, a8, He.eqO_ok a9, He.eqO_ok a10, of_decide_eq_true a11, of_decide_eq_true a12⟩, ⟨He.eqO_ok a5, He.eqO_ok a6, of_decide_eq_true a7, a8⟩, He.eqO_ok a3, He.eqO_ok a4⟩, of_decide_eq_true a13, fun n hn => Option.isSome_iff_exists.mp (List.all_eq_true.mp a14 n hn), Option.isSome_iff_exists.mp a15⟩, of_decide_eq_true a16⟩
def tierB (K : PySem.W.Frag) : Bool := PySem.W.readsIn K (He.ga K "TierError") (.type "type") && (He.eqO (PySem.W.specialIn K (.ref (He.ga K "TierError")) "__getattribute__") (some (some (.builtin "type.__getattribute__"))) && (match PySem.W.findCls K (.ref (He.ga K "TierError")) (.type "type") "__init__" with
  | some (.val u) => decide (u = .builtin "ValueError.__init__")
  | _ => false))
theorem tierB_ok {K : PySem.W.Frag} (h : tierB K = true) : ClX.CRead K (He.ga K "TierError") (.type "type") ∧ PySem.W.findCls K (.ref (He.ga K "TierError")) (.type "type") "__init__" = some (.val (.builtin "ValueError.__init__")) := by
  obtain ⟨a1, h⟩ := He.ba h
  obtain ⟨a2, a3⟩ := He.ba h
  refine ⟨⟨a1, He.eqO_ok a2⟩, ?_⟩
  split at a3
  · rename_i u hu
    rw [hu, of_decide_eq_true a3]
  · cases a3
/-! ### the hook: the names' reach, and the interpreter's statics -/
def hAs (g : Addr → Option Obj) : List Addr := He.asD g 6 ++ [cStatics]
section
variable {fa : List He.Fa} {fn : List He.DefD} {tf : List He.Defn} {ex : PySem.W.Frag → Bool}
def obsG (fa : List He.Fa) (fn : List He.DefD) (tf : List He.Defn) (ex : PySem.W.Frag → Bool) (g : Addr → Option Obj) : He.AlX := (He.obsT fa fn [] (He.frT g (hAs g)), ex (He.frT g (hAs g)) && He.tabsB g tf (He.frT g (hAs g)))
theorem saysG_of {w : World} {h : Heap} (e : obsG fa fn tf ex h.get? = He.valX fn [] w) : He.SaysX fa fn [] tf ex w h (He.frT h.get? (hAs h.get?)) := by
  have e1 : He.obsT fa fn [] (He.frT h.get? (hAs h.get?)) = He.valT fn [] w := congrArg (fun z : He.AlX => z.1) e
  have e2 : (ex (He.frT h.get? (hAs h.get?)) && He.tabsB h.get? tf (He.frT h.get? (hAs h.get?))) = true := congrArg (fun z : He.AlX => z.2) e
  obtain ⟨h1, h2⟩ := He.ba e2
  have key : ∀ p ∈ tf, PySem.W.codeHdIn (He.frT h.get? (hAs h.get?)) (He.cT (He.frT h.get? (hAs h.get?)) p).1 (He.cT (He.frT h.get? (hAs h.get?)) p).2 = true ∧ ∃ o, h.get? (He.cT (He.frT h.get? (hAs h.get?)) p).2 = some o ∧ He.emptyTab o = true := fun p hp => by
    obtain ⟨h3, h4⟩ := He.ba (List.all_eq_true.mp h2 p hp)
    refine ⟨h3, ?_⟩
    cases q : h.get? (He.cT (He.frT h.get? (hAs h.get?)) p).2 with
    | none =>
      rw [q] at h4
      cases h4
    | some o =>
      rw [q] at h4
      exact ⟨o, rfl, h4⟩
  exact ⟨e1, h1, fun p hp => (key p hp).1, fun p hp => by
    obtain ⟨_, o, q, z⟩ := key p hp
    exact He.frT_none q z, fun p hp => by
    obtain ⟨_, o, q, z⟩ := key p hp
    rw [q, He.emptyTab_eq z]⟩
def hookG (fa : List He.Fa) (fn : List He.DefD) (tf : List He.Defn) (ex : PySem.W.Frag → Bool) : PySem.W.Hook where
  α := He.AlX
  obs := fun s => obsG fa fn tf ex s.heap.get?
  val := fun w => He.valX fn [] w
  says := fun w h => ∃ K : PySem.W.Frag, K.In h ∧ He.SaysX fa fn [] tf ex w h K
  of := fun _ _ e => ⟨_, He.frT_in, saysG_of e⟩
  keeps := fun _ _ _ ⟨K, hK, c⟩ k => ⟨K, PySem.W.Frag.In.keeps hK k, ⟨c.t, c.more, c.hd, c.out, fun p hp => k _ _ (c.empty p hp)⟩⟩
theorem obsG_eq {g : Addr → Option Obj} {s : Shared} (h : ∀ a, g a = s.heap.get? a) : obsG fa fn tf ex g = (hookG fa fn tf ex).obs s := by
  have e : g = s.heap.get? := funext h
  rw [e] <;> rfl
end
end TP
set_option maxRecDepth 100000
set_option maxHeartbeats 0
namespace TP
open PySem PySem.Spec PyProof.Rows L2
/-! ### what the head tells, by names -/
def d0 : He.DefD := ⟨("_law_draws", none), "_law_draws", "_law_draws", defArgs sDraws, defBody sDraws, defScope sDraws, [], []⟩
def d1 : He.DefD := ⟨("_law_draw", none), "_law_draw", "_law_draw", defArgs sDraw, defBody sDraw, defScope sDraw, [], []⟩
def d2 : He.DefD := ⟨("_law_keys", none), "_law_keys", "_law_keys", defArgs sKeys, defBody sKeys, defScope sKeys, [], []⟩
def d3 : He.DefD := ⟨("_law_names", none), "_law_names", "_law_names", defArgs sNames, defBody sNames, defScope sNames, [], []⟩
def d4 : He.DefD := ⟨("_law_lean", none), "_law_lean", "_law_lean", defArgs sLean, defBody sLean, defScope sLean, [], []⟩
def d5 : He.DefD := ⟨("_law_line", none), "_law_line", "_law_line", defArgs sLine, defBody sLine, defScope sLine, [], []⟩
def d6 : He.DefD := ⟨("_law_word", none), "_law_word", "_law_word", defArgs sWord, defBody sWord, defScope sWord, [], []⟩
def d7 : He.DefD := ⟨("_law_level", none), "_law_level", "_law_level", defArgs sLevel, defBody sLevel, defScope sLevel, [], []⟩
def d8 : He.DefD := ⟨("_law_item", none), "_law_item", "_law_item", defArgs sItem, defBody sItem, defScope sItem, [], []⟩
def d9 : He.DefD := ⟨("_law_block", none), "_law_block", "_law_block", defArgs sBlock, defBody sBlock, defScope sBlock, [], []⟩
def d10 : He.DefD := ⟨("_law_write_block", none), "_law_write_block", "_law_write_block", defArgs sWBlock, defBody sWBlock, defScope sWBlock, [], []⟩
def d11 : He.DefD := ⟨("_law_write_so", none), "_law_write_so", "_law_write_so", defArgs sWSo, defBody sWSo, defScope sWSo, [], []⟩
def d12 : He.DefD := ⟨("_law_write", none), "_law_write", "_law_write", defArgs sWrite, defBody sWrite, defScope sWrite, [], []⟩
def d13 : He.DefD := ⟨("_law_written", none), "_law_written", "_law_written", defArgs sWritten, defBody sWritten, defScope sWritten, [], []⟩
def d14 : He.DefD := ⟨("_law_columns_text", none), "_law_columns_text", "_law_columns_text", defArgs sColumns, defBody sColumns, defScope sColumns, [], []⟩
def d15 : He.DefD := ⟨("_law_kind_of", none), "_law_kind_of", "_law_kind_of", defArgs sKindOf, defBody sKindOf, defScope sKindOf, [], []⟩
def d16 : He.DefD := ⟨("_law_refusal", none), "_law_refusal", "_law_refusal", defArgs sRefusal, defBody sRefusal, defScope sRefusal, [], []⟩
def d17 : He.DefD := ⟨("_law_told", none), "_law_told", "_law_told", defArgs sTold, defBody sTold, defScope sTold, [], []⟩
def d18 : He.DefD := ⟨("_law_is_laid", none), "_law_is_laid", "_law_is_laid", defArgs sIsLaid, defBody sIsLaid, defScope sIsLaid, [], []⟩
def d19 : He.DefD := ⟨("law", none), "law", "law", defArgs sLaw, defBody sLaw, defScope sLaw, [], []⟩
def d20 : He.DefD := ⟨("run_of", none), "run_of", "run_of", defArgs sRun, defBody sRun, defScope sRun, [], []⟩
def d21 : He.DefD := ⟨("mark_at", none), "mark_at", "mark_at", defArgs sMarkAt, defBody sMarkAt, defScope sMarkAt, [], []⟩
def d22 : He.DefD := ⟨("marks", none), "marks", "marks", defArgs sMarks, defBody sMarks, defScope sMarks, [], []⟩
def d23 : He.DefD := ⟨("laid", none), "laid", "laid", defArgs sLaid, defBody sLaid, defScope sLaid, [], []⟩
def d24 : He.DefD := ⟨("BadText", some "__init__"), "__init__", "BadText.__init__", defArgs sBad, defBody sBad, defScope sBad, [], []⟩
def d25 : He.DefD := ⟨("Layout", some "__init__"), "__init__", "Layout.__init__", defArgs sLyInit, defBody sLyInit, defScope sLyInit, [], []⟩
def d26 : He.DefD := ⟨("Layout", some "lay"), "lay", "Layout.lay", defArgs sLyLay, defBody sLyLay, defScope sLyLay, [], []⟩
def d27 : He.DefD := ⟨("Layout", some "begin"), "begin", "Layout.begin", defArgs sLyBegin, defBody sLyBegin, defScope sLyBegin, [], []⟩
def d28 : He.DefD := ⟨("Layout", some "block"), "block", "Layout.block", defArgs sLyBlock, defBody sLyBlock, defScope sLyBlock, [], []⟩
def d29 : He.DefD := ⟨("Layout", some "first_of_line"), "first_of_line", "Layout.first_of_line", defArgs sLyFirst, defBody sLyFirst, defScope sLyFirst, [], []⟩
def d30 : He.DefD := ⟨("Layout", some "bracket"), "bracket", "Layout.bracket", defArgs sLyBrk, defBody sLyBrk, defScope sLyBrk, [], []⟩
def d31 : He.DefD := ⟨("Layout", some "put"), "put", "Layout.put", defArgs sLyPut, defBody sLyPut, defScope sLyPut, [], []⟩
def hFn : List He.DefD := [d0, d1, d2, d3, d4, d5, d6, d7, d8, d9, d10, d11, d12, d13, d14, d15, d16, d17, d18, d19, d20, d21, d22, d23, d24, d25, d26, d27, d28, d29, d30, d31]
def hFa : List He.Fa := [.glo "_law_draws", .glo "_law_draw", .glo "_law_keys", .glo "_law_names", .glo "_law_lean", .glo "_law_line", .glo "_law_word", .glo "_law_level", .glo "_law_item", .glo "_law_block", .glo "_law_write_block", .glo "_law_write_so", .glo "_law_write", .glo "_law_written", .glo "_law_columns_text", .glo "_law_kind_of", .glo "_law_refusal", .glo "_law_told", .glo "_law_is_laid", .glo "law", .glo "run_of", .glo "mark_at", .glo "marks", .glo "laid", .glo "TierError", .glo "BadText", .glo "NoBlock", .glo "NoCode", .glo "NoForm", .glo "NoLine", .glo "NoMark", .glo "NoProgram", .glo "NoText", .glo "NoTree", .glo "NoWorths", .glo "NotNow", .glo "NotThere", .glo "NothingLeft", .glo "TooDeep", .glo "TooMany", .glo "Unsound", .glo "KEYS", .glo "SIGNS", .glo "Layout", .free "len", .free "range", .free "int", .free "str", .free "tuple", .free "reversed", .free "enumerate", .free "max", .free "min", .free "list", .free "isinstance", .free "zip", .free "ValueError", .int "MOST_OPEN" 24, .int "BRACKET" (-1), .str "LETTERS" letS, .str "FIGURES" figS, .cls "Layout", .noat "Layout" "told", .noat "Layout" "stack", .mkr "Layout", .meth "Layout" "lay", .meth "Layout" "begin", .meth "Layout" "block", .meth "Layout" "first_of_line", .meth "Layout" "bracket", .meth "Layout" "put"]
def hTf : List He.Defn := [("law", none)]
def hEx (K : PySem.W.Frag) : Bool := He.tupB K "KEYS" (keysS.map He.Dv.str) && (He.tupB K "SIGNS" (signsS.map He.Dv.str) && (errB K "NoMark" && (errB K "NoBlock" && (errB K "TooDeep" && (tierB K && decide (PySem.W.typeIn K (.ref (badI K)) = some (.type "function")))))))
abbrev hHook : PySem.W.Hook := hookG hFa hFn hTf hEx
abbrev hR : PySem.W.OpenRow := PySem.W.OpenLaw.row PySem.Challenge.rw_tierpile_k05_whole_blocks_within
def hOb (s : PySem.W.SharedT) : He.AlX := obsG hFa hFn hTf hEx (HandSHeadRun.getT s)
theorem hOb_eq (s : PySem.W.SharedT) : hOb s = hHook.obs s.abs := obsG_eq (HandSHeadRun.getT_eq s)
def hN1 : List PySem.Str := ["_law_draws", "_law_draw", "_law_keys", "_law_names", "_law_lean", "_law_line", "_law_word", "_law_level", "_law_item", "_law_block", "_law_write_block", "_law_write_so", "_law_write", "_law_written", "_law_columns_text", "_law_kind_of", "_law_refusal", "_law_told", "_law_is_laid", "run_of", "mark_at", "marks", "laid", "TierError"]
def hN2 : List PySem.Str := ["BadText", "NoBlock", "NoCode", "NoForm", "NoLine", "NoMark", "NoProgram", "NoText", "NoTree", "NoWorths", "NotNow", "NotThere", "NothingLeft", "TooDeep", "TooMany", "Unsound", "KEYS", "SIGNS", "Layout", "LETTERS", "FIGURES", "MOST_OPEN", "BRACKET"]
def hNs : List PySem.Str := hN1 ++ hN2
theorem hRun (w : World) : HandSHeadRun.RunEq hR (PySem.W.view hR.prog [51]) hHook hOb 6000 hNs w := by
  intro os
  kernel_rfl
end TP
set_option maxRecDepth 100000
set_option maxHeartbeats 4000000
namespace TP
open PySem PySem.Spec PyProof.Rows L2
section
variable {P : Program} {w : World} {K : PySem.W.Frag} {h : Heap} {mg : Str → Option Value} {base : Heap}
theorem df__law_draws (X : K.In h) (G : h.Ns mainGlobals mg) (c : He.SaysX hFa hFn [] hTf hEx w h K) : ∃ fd, Df K mg "_law_draws" sDraws (He.ga K "_law_draws") fd ["script", "k"] := by
  obtain ⟨fd, F⟩ := c.t.d.def_ 0 (d := d0) rfl
  have F' : Fun K "_law_draws" "_law_draws" sDraws (He.ga K "_law_draws") fd := He5.fun_of F
  exact ⟨fd, F', (He.glo_ok X G (c.t.d.fact 0 (f := .glo "_law_draws") rfl)), F'.binds (ps := ["script", "k"]) fun _ _ _ _ _ _ us hl => match us, hl with | [_, _], _ => rfl⟩
theorem df__law_draw (X : K.In h) (G : h.Ns mainGlobals mg) (c : He.SaysX hFa hFn [] hTf hEx w h K) : ∃ fd, Df K mg "_law_draw" sDraw (He.ga K "_law_draw") fd ["draws", "many"] := by
  obtain ⟨fd, F⟩ := c.t.d.def_ 1 (d := d1) rfl
  have F' : Fun K "_law_draw" "_law_draw" sDraw (He.ga K "_law_draw") fd := He5.fun_of F
  exact ⟨fd, F', (He.glo_ok X G (c.t.d.fact 1 (f := .glo "_law_draw") rfl)), F'.binds (ps := ["draws", "many"]) fun _ _ _ _ _ _ us hl => match us, hl with | [_, _], _ => rfl⟩
theorem df__law_keys (X : K.In h) (G : h.Ns mainGlobals mg) (c : He.SaysX hFa hFn [] hTf hEx w h K) : ∃ fd, Df K mg "_law_keys" sKeys (He.ga K "_law_keys") fd [] := by
  obtain ⟨fd, F⟩ := c.t.d.def_ 2 (d := d2) rfl
  have F' : Fun K "_law_keys" "_law_keys" sKeys (He.ga K "_law_keys") fd := He5.fun_of F
  exact ⟨fd, F', (He.glo_ok X G (c.t.d.fact 2 (f := .glo "_law_keys") rfl)), F'.binds (ps := []) fun _ _ _ _ _ _ us hl => match us, hl with | [], _ => rfl⟩
theorem df__law_names (X : K.In h) (G : h.Ns mainGlobals mg) (c : He.SaysX hFa hFn [] hTf hEx w h K) : ∃ fd, Df K mg "_law_names" sNames (He.ga K "_law_names") fd ["draws", "many"] := by
  obtain ⟨fd, F⟩ := c.t.d.def_ 3 (d := d3) rfl
  have F' : Fun K "_law_names" "_law_names" sNames (He.ga K "_law_names") fd := He5.fun_of F
  exact ⟨fd, F', (He.glo_ok X G (c.t.d.fact 3 (f := .glo "_law_names") rfl)), F'.binds (ps := ["draws", "many"]) fun _ _ _ _ _ _ us hl => match us, hl with | [_, _], _ => rfl⟩
theorem df__law_lean (X : K.In h) (G : h.Ns mainGlobals mg) (c : He.SaysX hFa hFn [] hTf hEx w h K) : ∃ fd, Df K mg "_law_lean" sLean (He.ga K "_law_lean") fd ["draws"] := by
  obtain ⟨fd, F⟩ := c.t.d.def_ 4 (d := d4) rfl
  have F' : Fun K "_law_lean" "_law_lean" sLean (He.ga K "_law_lean") fd := He5.fun_of F
  exact ⟨fd, F', (He.glo_ok X G (c.t.d.fact 4 (f := .glo "_law_lean") rfl)), F'.binds (ps := ["draws"]) fun _ _ _ _ _ _ us hl => match us, hl with | [_], _ => rfl⟩
theorem df__law_line (X : K.In h) (G : h.Ns mainGlobals mg) (c : He.SaysX hFa hFn [] hTf hEx w h K) : ∃ fd, Df K mg "_law_line" sLine (He.ga K "_law_line") fd ["draws", "pen", "column"] := by
  obtain ⟨fd, F⟩ := c.t.d.def_ 5 (d := d5) rfl
  have F' : Fun K "_law_line" "_law_line" sLine (He.ga K "_law_line") fd := He5.fun_of F
  exact ⟨fd, F', (He.glo_ok X G (c.t.d.fact 5 (f := .glo "_law_line") rfl)), F'.binds (ps := ["draws", "pen", "column"]) fun _ _ _ _ _ _ us hl => match us, hl with | [_, _, _], _ => rfl⟩
theorem df__law_word (X : K.In h) (G : h.Ns mainGlobals mg) (c : He.SaysX hFa hFn [] hTf hEx w h K) : ∃ fd, Df K mg "_law_word" sWord (He.ga K "_law_word") fd ["draws", "pen", "word", "least", "free"] := by
  obtain ⟨fd, F⟩ := c.t.d.def_ 6 (d := d6) rfl
  have F' : Fun K "_law_word" "_law_word" sWord (He.ga K "_law_word") fd := He5.fun_of F
  exact ⟨fd, F', (He.glo_ok X G (c.t.d.fact 6 (f := .glo "_law_word") rfl)), F'.binds (ps := ["draws", "pen", "word", "least", "free"]) fun _ _ _ _ _ _ us hl => match us, hl with | [_, _, _, _, _], _ => rfl⟩
theorem df__law_level (X : K.In h) (G : h.Ns mainGlobals mg) (c : He.SaysX hFa hFn [] hTf hEx w h K) : ∃ fd, Df K mg "_law_level" sLevel (He.ga K "_law_level") fd ["tree"] := by
  obtain ⟨fd, F⟩ := c.t.d.def_ 7 (d := d7) rfl
  have F' : Fun K "_law_level" "_law_level" sLevel (He.ga K "_law_level") fd := He5.fun_of F
  exact ⟨fd, F', (He.glo_ok X G (c.t.d.fact 7 (f := .glo "_law_level") rfl)), F'.binds (ps := ["tree"]) fun _ _ _ _ _ _ us hl => match us, hl with | [_], _ => rfl⟩
theorem df__law_item (X : K.In h) (G : h.Ns mainGlobals mg) (c : He.SaysX hFa hFn [] hTf hEx w h K) : ∃ fd, Df K mg "_law_item" sItem (He.ga K "_law_item") fd ["draws", "pen", "column"] := by
  obtain ⟨fd, F⟩ := c.t.d.def_ 8 (d := d8) rfl
  have F' : Fun K "_law_item" "_law_item" sItem (He.ga K "_law_item") fd := He5.fun_of F
  exact ⟨fd, F', (He.glo_ok X G (c.t.d.fact 8 (f := .glo "_law_item") rfl)), F'.binds (ps := ["draws", "pen", "column"]) fun _ _ _ _ _ _ us hl => match us, hl with | [_, _, _], _ => rfl⟩
theorem df__law_block (X : K.In h) (G : h.Ns mainGlobals mg) (c : He.SaysX hFa hFn [] hTf hEx w h K) : ∃ fd, Df K mg "_law_block" sBlock (He.ga K "_law_block") fd ["draws", "pen", "least"] := by
  obtain ⟨fd, F⟩ := c.t.d.def_ 9 (d := d9) rfl
  have F' : Fun K "_law_block" "_law_block" sBlock (He.ga K "_law_block") fd := He5.fun_of F
  exact ⟨fd, F', (He.glo_ok X G (c.t.d.fact 9 (f := .glo "_law_block") rfl)), F'.binds (ps := ["draws", "pen", "least"]) fun _ _ _ _ _ _ us hl => match us, hl with | [_, _, _], _ => rfl⟩
theorem df__law_write_block (X : K.In h) (G : h.Ns mainGlobals mg) (c : He.SaysX hFa hFn [] hTf hEx w h K) : ∃ fd, Df K mg "_law_write_block" sWBlock (He.ga K "_law_write_block") fd ["draws", "pen", "tree", "least", "free"] := by
  obtain ⟨fd, F⟩ := c.t.d.def_ 10 (d := d10) rfl
  have F' : Fun K "_law_write_block" "_law_write_block" sWBlock (He.ga K "_law_write_block") fd := He5.fun_of F
  exact ⟨fd, F', (He.glo_ok X G (c.t.d.fact 10 (f := .glo "_law_write_block") rfl)), F'.binds (ps := ["draws", "pen", "tree", "least", "free"]) fun _ _ _ _ _ _ us hl => match us, hl with | [_, _, _, _, _], _ => rfl⟩
theorem df__law_write_so (X : K.In h) (G : h.Ns mainGlobals mg) (c : He.SaysX hFa hFn [] hTf hEx w h K) : ∃ fd, Df K mg "_law_write_so" sWSo (He.ga K "_law_write_so") fd ["draws", "pen", "tree", "least", "free"] := by
  obtain ⟨fd, F⟩ := c.t.d.def_ 11 (d := d11) rfl
  have F' : Fun K "_law_write_so" "_law_write_so" sWSo (He.ga K "_law_write_so") fd := He5.fun_of F
  exact ⟨fd, F', (He.glo_ok X G (c.t.d.fact 11 (f := .glo "_law_write_so") rfl)), F'.binds (ps := ["draws", "pen", "tree", "least", "free"]) fun _ _ _ _ _ _ us hl => match us, hl with | [_, _, _, _, _], _ => rfl⟩
theorem df__law_write (X : K.In h) (G : h.Ns mainGlobals mg) (c : He.SaysX hFa hFn [] hTf hEx w h K) : ∃ fd, Df K mg "_law_write" sWrite (He.ga K "_law_write") fd ["draws", "pen", "tree", "least", "free", "need_d"] := by
  obtain ⟨fd, F⟩ := c.t.d.def_ 12 (d := d12) rfl
  have F' : Fun K "_law_write" "_law_write" sWrite (He.ga K "_law_write") fd := He5.fun_of F
  exact ⟨fd, F', (He.glo_ok X G (c.t.d.fact 12 (f := .glo "_law_write") rfl)), F'.binds (ps := ["draws", "pen", "tree", "least", "free", "need_d"]) fun _ _ _ _ _ _ us hl => match us, hl with | [_, _, _, _, _, _], _ => rfl⟩
theorem df__law_written (X : K.In h) (G : h.Ns mainGlobals mg) (c : He.SaysX hFa hFn [] hTf hEx w h K) : ∃ fd, Df K mg "_law_written" sWritten (He.ga K "_law_written") fd ["draws", "program"] := by
  obtain ⟨fd, F⟩ := c.t.d.def_ 13 (d := d13) rfl
  have F' : Fun K "_law_written" "_law_written" sWritten (He.ga K "_law_written") fd := He5.fun_of F
  exact ⟨fd, F', (He.glo_ok X G (c.t.d.fact 13 (f := .glo "_law_written") rfl)), F'.binds (ps := ["draws", "program"]) fun _ _ _ _ _ _ us hl => match us, hl with | [_, _], _ => rfl⟩
theorem df__law_columns_text (X : K.In h) (G : h.Ns mainGlobals mg) (c : He.SaysX hFa hFn [] hTf hEx w h K) : ∃ fd, Df K mg "_law_columns_text" sColumns (He.ga K "_law_columns_text") fd ["draws"] := by
  obtain ⟨fd, F⟩ := c.t.d.def_ 14 (d := d14) rfl
  have F' : Fun K "_law_columns_text" "_law_columns_text" sColumns (He.ga K "_law_columns_text") fd := He5.fun_of F
  exact ⟨fd, F', (He.glo_ok X G (c.t.d.fact 14 (f := .glo "_law_columns_text") rfl)), F'.binds (ps := ["draws"]) fun _ _ _ _ _ _ us hl => match us, hl with | [_], _ => rfl⟩
theorem df__law_kind_of (X : K.In h) (G : h.Ns mainGlobals mg) (c : He.SaysX hFa hFn [] hTf hEx w h K) : ∃ fd, Df K mg "_law_kind_of" sKindOf (He.ga K "_law_kind_of") fd ["e"] := by
  obtain ⟨fd, F⟩ := c.t.d.def_ 15 (d := d15) rfl
  have F' : Fun K "_law_kind_of" "_law_kind_of" sKindOf (He.ga K "_law_kind_of") fd := He5.fun_of F
  exact ⟨fd, F', (He.glo_ok X G (c.t.d.fact 15 (f := .glo "_law_kind_of") rfl)), F'.binds (ps := ["e"]) fun _ _ _ _ _ _ us hl => match us, hl with | [_], _ => rfl⟩
theorem df__law_refusal (X : K.In h) (G : h.Ns mainGlobals mg) (c : He.SaysX hFa hFn [] hTf hEx w h K) : ∃ fd, Df K mg "_law_refusal" sRefusal (He.ga K "_law_refusal") fd ["e"] := by
  obtain ⟨fd, F⟩ := c.t.d.def_ 16 (d := d16) rfl
  have F' : Fun K "_law_refusal" "_law_refusal" sRefusal (He.ga K "_law_refusal") fd := He5.fun_of F
  exact ⟨fd, F', (He.glo_ok X G (c.t.d.fact 16 (f := .glo "_law_refusal") rfl)), F'.binds (ps := ["e"]) fun _ _ _ _ _ _ us hl => match us, hl with | [_], _ => rfl⟩
theorem df__law_told (X : K.In h) (G : h.Ns mainGlobals mg) (c : He.SaysX hFa hFn [] hTf hEx w h K) : ∃ fd, Df K mg "_law_told" sTold (He.ga K "_law_told") fd ["deed"] := by
  obtain ⟨fd, F⟩ := c.t.d.def_ 17 (d := d17) rfl
  have F' : Fun K "_law_told" "_law_told" sTold (He.ga K "_law_told") fd := He5.fun_of F
  exact ⟨fd, F', (He.glo_ok X G (c.t.d.fact 17 (f := .glo "_law_told") rfl)), F'.binds (ps := ["deed"]) fun _ _ _ _ _ _ us hl => match us, hl with | [_], _ => rfl⟩
theorem df__law_is_laid (X : K.In h) (G : h.Ns mainGlobals mg) (c : He.SaysX hFa hFn [] hTf hEx w h K) : ∃ fd, Df K mg "_law_is_laid" sIsLaid (He.ga K "_law_is_laid") fd ["text", "found"] := by
  obtain ⟨fd, F⟩ := c.t.d.def_ 18 (d := d18) rfl
  have F' : Fun K "_law_is_laid" "_law_is_laid" sIsLaid (He.ga K "_law_is_laid") fd := He5.fun_of F
  exact ⟨fd, F', (He.glo_ok X G (c.t.d.fact 18 (f := .glo "_law_is_laid") rfl)), F'.binds (ps := ["text", "found"]) fun _ _ _ _ _ _ us hl => match us, hl with | [_, _], _ => rfl⟩
theorem df_law (X : K.In h) (G : h.Ns mainGlobals mg) (c : He.SaysX hFa hFn [] hTf hEx w h K) : ∃ fd, Df K mg "law" sLaw (He.ga K "law") fd ["script"] := by
  obtain ⟨fd, F⟩ := c.t.d.def_ 19 (d := d19) rfl
  have F' : Fun K "law" "law" sLaw (He.ga K "law") fd := He5.fun_of F
  exact ⟨fd, F', (He.glo_ok X G (c.t.d.fact 19 (f := .glo "law") rfl)), F'.binds (ps := ["script"]) fun _ _ _ _ _ _ us hl => match us, hl with | [_], _ => rfl⟩
theorem df_run_of (X : K.In h) (G : h.Ns mainGlobals mg) (c : He.SaysX hFa hFn [] hTf hEx w h K) : ∃ fd, Df K mg "run_of" sRun (He.ga K "run_of") fd ["row", "at", "signs"] := by
  obtain ⟨fd, F⟩ := c.t.d.def_ 20 (d := d20) rfl
  have F' : Fun K "run_of" "run_of" sRun (He.ga K "run_of") fd := He5.fun_of F
  exact ⟨fd, F', (He.glo_ok X G (c.t.d.fact 20 (f := .glo "run_of") rfl)), F'.binds (ps := ["row", "at", "signs"]) fun _ _ _ _ _ _ us hl => match us, hl with | [_, _, _], _ => rfl⟩
theorem df_mark_at (X : K.In h) (G : h.Ns mainGlobals mg) (c : He.SaysX hFa hFn [] hTf hEx w h K) : ∃ fd, Df K mg "mark_at" sMarkAt (He.ga K "mark_at") fd ["row", "at", "line"] := by
  obtain ⟨fd, F⟩ := c.t.d.def_ 21 (d := d21) rfl
  have F' : Fun K "mark_at" "mark_at" sMarkAt (He.ga K "mark_at") fd := He5.fun_of F
  exact ⟨fd, F', (He.glo_ok X G (c.t.d.fact 21 (f := .glo "mark_at") rfl)), F'.binds (ps := ["row", "at", "line"]) fun _ _ _ _ _ _ us hl => match us, hl with | [_, _, _], _ => rfl⟩
theorem df_marks (X : K.In h) (G : h.Ns mainGlobals mg) (c : He.SaysX hFa hFn [] hTf hEx w h K) : ∃ fd, Df K mg "marks" sMarks (He.ga K "marks") fd ["text"] := by
  obtain ⟨fd, F⟩ := c.t.d.def_ 22 (d := d22) rfl
  have F' : Fun K "marks" "marks" sMarks (He.ga K "marks") fd := He5.fun_of F
  exact ⟨fd, F', (He.glo_ok X G (c.t.d.fact 22 (f := .glo "marks") rfl)), F'.binds (ps := ["text"]) fun _ _ _ _ _ _ us hl => match us, hl with | [_], _ => rfl⟩
theorem df_laid (X : K.In h) (G : h.Ns mainGlobals mg) (c : He.SaysX hFa hFn [] hTf hEx w h K) : ∃ fd, Df K mg "laid" sLaid (He.ga K "laid") fd ["text"] := by
  obtain ⟨fd, F⟩ := c.t.d.def_ 23 (d := d23) rfl
  have F' : Fun K "laid" "laid" sLaid (He.ga K "laid") fd := He5.fun_of F
  exact ⟨fd, F', (He.glo_ok X G (c.t.d.fact 23 (f := .glo "laid") rfl)), F'.binds (ps := ["text"]) fun _ _ _ _ _ _ us hl => match us, hl with | [_], _ => rfl⟩
theorem mt_BadText___init__ (c : He.SaysX hFa hFn [] hTf hEx w h K) : ∃ fd, Fun K "__init__" "BadText.__init__" sBad (He.ma K (He.ga K "BadText") "__init__") fd ∧ Binds K fd ["self", "line", "column"] [] := by
  obtain ⟨fd, F⟩ := c.t.d.def_ 24 (d := d24) rfl
  have F' : Fun K "__init__" "BadText.__init__" sBad (He.ma K (He.ga K "BadText") "__init__") fd := He5.fun_of F
  exact ⟨fd, F', F'.binds (ps := ["self", "line", "column"]) fun _ _ _ _ _ _ us hl => match us, hl with | [_, _, _], _ => rfl⟩
theorem mt_Layout___init__ (c : He.SaysX hFa hFn [] hTf hEx w h K) : ∃ fd, Fun K "__init__" "Layout.__init__" sLyInit (He.ma K (He.ga K "Layout") "__init__") fd ∧ Binds K fd ["self"] [] := by
  obtain ⟨fd, F⟩ := c.t.d.def_ 25 (d := d25) rfl
  have F' : Fun K "__init__" "Layout.__init__" sLyInit (He.ma K (He.ga K "Layout") "__init__") fd := He5.fun_of F
  exact ⟨fd, F', F'.binds (ps := ["self"]) fun _ _ _ _ _ _ us hl => match us, hl with | [_], _ => rfl⟩
theorem mt_Layout_lay (c : He.SaysX hFa hFn [] hTf hEx w h K) : ∃ fd, Fun K "lay" "Layout.lay" sLyLay (He.ma K (He.ga K "Layout") "lay") fd ∧ Binds K fd ["self", "sign", "line", "column"] [] := by
  obtain ⟨fd, F⟩ := c.t.d.def_ 26 (d := d26) rfl
  have F' : Fun K "lay" "Layout.lay" sLyLay (He.ma K (He.ga K "Layout") "lay") fd := He5.fun_of F
  exact ⟨fd, F', F'.binds (ps := ["self", "sign", "line", "column"]) fun _ _ _ _ _ _ us hl => match us, hl with | [_, _, _, _], _ => rfl⟩
theorem mt_Layout_begin (c : He.SaysX hFa hFn [] hTf hEx w h K) : ∃ fd, Fun K "begin" "Layout.begin" sLyBegin (He.ma K (He.ga K "Layout") "begin") fd ∧ Binds K fd ["self", "column", "mark"] [] := by
  obtain ⟨fd, F⟩ := c.t.d.def_ 27 (d := d27) rfl
  have F' : Fun K "begin" "Layout.begin" sLyBegin (He.ma K (He.ga K "Layout") "begin") fd := He5.fun_of F
  exact ⟨fd, F', F'.binds (ps := ["self", "column", "mark"]) fun _ _ _ _ _ _ us hl => match us, hl with | [_, _, _], _ => rfl⟩
theorem mt_Layout_block (c : He.SaysX hFa hFn [] hTf hEx w h K) : ∃ fd, Fun K "block" "Layout.block" sLyBlock (He.ma K (He.ga K "Layout") "block") fd ∧ Binds K fd ["self", "mark"] [] := by
  obtain ⟨fd, F⟩ := c.t.d.def_ 28 (d := d28) rfl
  have F' : Fun K "block" "Layout.block" sLyBlock (He.ma K (He.ga K "Layout") "block") fd := He5.fun_of F
  exact ⟨fd, F', F'.binds (ps := ["self", "mark"]) fun _ _ _ _ _ _ us hl => match us, hl with | [_, _], _ => rfl⟩
theorem mt_Layout_first_of_line (c : He.SaysX hFa hFn [] hTf hEx w h K) : ∃ fd, Fun K "first_of_line" "Layout.first_of_line" sLyFirst (He.ma K (He.ga K "Layout") "first_of_line") fd ∧ Binds K fd ["self", "mark"] [] := by
  obtain ⟨fd, F⟩ := c.t.d.def_ 29 (d := d29) rfl
  have F' : Fun K "first_of_line" "Layout.first_of_line" sLyFirst (He.ma K (He.ga K "Layout") "first_of_line") fd := He5.fun_of F
  exact ⟨fd, F', F'.binds (ps := ["self", "mark"]) fun _ _ _ _ _ _ us hl => match us, hl with | [_, _], _ => rfl⟩
theorem mt_Layout_bracket (c : He.SaysX hFa hFn [] hTf hEx w h K) : ∃ fd, Fun K "bracket" "Layout.bracket" sLyBrk (He.ma K (He.ga K "Layout") "bracket") fd ∧ Binds K fd ["self", "mark"] [] := by
  obtain ⟨fd, F⟩ := c.t.d.def_ 30 (d := d30) rfl
  have F' : Fun K "bracket" "Layout.bracket" sLyBrk (He.ma K (He.ga K "Layout") "bracket") fd := He5.fun_of F
  exact ⟨fd, F', F'.binds (ps := ["self", "mark"]) fun _ _ _ _ _ _ us hl => match us, hl with | [_, _], _ => rfl⟩
theorem mt_Layout_put (c : He.SaysX hFa hFn [] hTf hEx w h K) : ∃ fd, Fun K "put" "Layout.put" sLyPut (He.ma K (He.ga K "Layout") "put") fd ∧ Binds K fd ["self", "mark", "ahead"] [] := by
  obtain ⟨fd, F⟩ := c.t.d.def_ 31 (d := d31) rfl
  have F' : Fun K "put" "Layout.put" sLyPut (He.ma K (He.ga K "Layout") "put") fd := He5.fun_of F
  exact ⟨fd, F', F'.binds (ps := ["self", "mark", "ahead"]) fun _ _ _ _ _ _ us hl => match us, hl with | [_, _, _], _ => rfl⟩
end
end TP
set_option maxRecDepth 100000
set_option maxHeartbeats 4000000
namespace TP
open PySem PySem.Spec PyProof.Rows L2
section
variable {w : World} {K : PySem.W.Frag} {h : Heap} {mg : Str → Option Value}
theorem cls_g (X : K.In h) (G : h.Ns mainGlobals mg) (c : He.SaysX hFa hFn [] hTf hEx w h K) : ClsG mg (He.ga K) := by
  intro n hn
  simp only [clsN, List.mem_cons, List.not_mem_nil, or_false] at hn
  rcases hn with rfl | rfl | rfl | rfl | rfl | rfl | rfl | rfl | rfl | rfl | rfl | rfl | rfl | rfl | rfl | rfl
  · exact (He.glo_ok X G (c.t.d.fact 25 (f := .glo "BadText") rfl))
  · exact (He.glo_ok X G (c.t.d.fact 26 (f := .glo "NoBlock") rfl))
  · exact (He.glo_ok X G (c.t.d.fact 27 (f := .glo "NoCode") rfl))
  · exact (He.glo_ok X G (c.t.d.fact 28 (f := .glo "NoForm") rfl))
  · exact (He.glo_ok X G (c.t.d.fact 29 (f := .glo "NoLine") rfl))
  · exact (He.glo_ok X G (c.t.d.fact 30 (f := .glo "NoMark") rfl))
  · exact (He.glo_ok X G (c.t.d.fact 31 (f := .glo "NoProgram") rfl))
  · exact (He.glo_ok X G (c.t.d.fact 32 (f := .glo "NoText") rfl))
  · exact (He.glo_ok X G (c.t.d.fact 33 (f := .glo "NoTree") rfl))
  · exact (He.glo_ok X G (c.t.d.fact 34 (f := .glo "NoWorths") rfl))
  · exact (He.glo_ok X G (c.t.d.fact 35 (f := .glo "NotNow") rfl))
  · exact (He.glo_ok X G (c.t.d.fact 36 (f := .glo "NotThere") rfl))
  · exact (He.glo_ok X G (c.t.d.fact 37 (f := .glo "NothingLeft") rfl))
  · exact (He.glo_ok X G (c.t.d.fact 38 (f := .glo "TooDeep") rfl))
  · exact (He.glo_ok X G (c.t.d.fact 39 (f := .glo "TooMany") rfl))
  · exact (He.glo_ok X G (c.t.d.fact 40 (f := .glo "Unsound") rfl))
theorem law_at (X : K.In h) (G : h.Ns mainGlobals mg) (c : He.SaysX hFa hFn [] hTf hEx w h K) {fa : Addr} (hfa : mg "law" = some (.ref fa)) : LamX.LawAtS PySem.Challenge.rw_tierpile_k05_whole_blocks_within w K CX0 25 63 "script" mg fa h := by
  obtain ⟨x1, xm⟩ := He.ba c.more
  obtain ⟨x2, xm⟩ := He.ba xm
  obtain ⟨x3, xm⟩ := He.ba xm
  obtain ⟨x4, xm⟩ := He.ba xm
  obtain ⟨x5, xm⟩ := He.ba xm
  obtain ⟨x6, x7⟩ := He.ba xm
  have eM := errB_ok x3
  have eN := errB_ok x4
  have eT := errB_ok x5
  have cr := tierB_ok x6
  have tyB : PySem.W.typeIn K (.ref (badI K)) = some (.type "function") := of_decide_eq_true x7
  have CG := cls_g X G c
  obtain ⟨fd__law_draws, D__law_draws⟩ := df__law_draws X G c
  obtain ⟨fd__law_draw, D__law_draw⟩ := df__law_draw X G c
  obtain ⟨fd__law_keys, D__law_keys⟩ := df__law_keys X G c
  obtain ⟨fd__law_names, D__law_names⟩ := df__law_names X G c
  obtain ⟨fd__law_lean, D__law_lean⟩ := df__law_lean X G c
  obtain ⟨fd__law_line, D__law_line⟩ := df__law_line X G c
  obtain ⟨fd__law_word, D__law_word⟩ := df__law_word X G c
  obtain ⟨fd__law_level, D__law_level⟩ := df__law_level X G c
  obtain ⟨fd__law_item, D__law_item⟩ := df__law_item X G c
  obtain ⟨fd__law_block, D__law_block⟩ := df__law_block X G c
  obtain ⟨fd__law_write_block, D__law_write_block⟩ := df__law_write_block X G c
  obtain ⟨fd__law_write_so, D__law_write_so⟩ := df__law_write_so X G c
  obtain ⟨fd__law_write, D__law_write⟩ := df__law_write X G c
  obtain ⟨fd__law_written, D__law_written⟩ := df__law_written X G c
  obtain ⟨fd__law_columns_text, D__law_columns_text⟩ := df__law_columns_text X G c
  obtain ⟨fd__law_kind_of, D__law_kind_of⟩ := df__law_kind_of X G c
  obtain ⟨fd__law_refusal, D__law_refusal⟩ := df__law_refusal X G c
  obtain ⟨fd__law_told, D__law_told⟩ := df__law_told X G c
  obtain ⟨fd__law_is_laid, D__law_is_laid⟩ := df__law_is_laid X G c
  obtain ⟨fd_law, D_law⟩ := df_law X G c
  obtain ⟨fd_run_of, D_run_of⟩ := df_run_of X G c
  obtain ⟨fd_mark_at, D_mark_at⟩ := df_mark_at X G c
  obtain ⟨fd_marks, D_marks⟩ := df_marks X G c
  obtain ⟨fd_laid, D_laid⟩ := df_laid X G c
  obtain ⟨fm_BadText___init__, F_BadText___init__, b_BadText___init__⟩ := mt_BadText___init__ c
  obtain ⟨fm_Layout___init__, F_Layout___init__, b_Layout___init__⟩ := mt_Layout___init__ c
  obtain ⟨fm_Layout_lay, F_Layout_lay, b_Layout_lay⟩ := mt_Layout_lay c
  obtain ⟨fm_Layout_begin, F_Layout_begin, b_Layout_begin⟩ := mt_Layout_begin c
  obtain ⟨fm_Layout_block, F_Layout_block, b_Layout_block⟩ := mt_Layout_block c
  obtain ⟨fm_Layout_first_of_line, F_Layout_first_of_line, b_Layout_first_of_line⟩ := mt_Layout_first_of_line c
  obtain ⟨fm_Layout_bracket, F_Layout_bracket, b_Layout_bracket⟩ := mt_Layout_bracket c
  obtain ⟨fm_Layout_put, F_Layout_put, b_Layout_put⟩ := mt_Layout_put c
  have g_len := (He.free_ok X G (c.t.d.fact 44 (f := .free "len") rfl))
  have g_range := (He.free_ok X G (c.t.d.fact 45 (f := .free "range") rfl))
  have g_int := (He.free_ok X G (c.t.d.fact 46 (f := .free "int") rfl))
  have g_str := (He.free_ok X G (c.t.d.fact 47 (f := .free "str") rfl))
  have g_tuple := (He.free_ok X G (c.t.d.fact 48 (f := .free "tuple") rfl))
  have g_reversed := (He.free_ok X G (c.t.d.fact 49 (f := .free "reversed") rfl))
  have g_enumerate := (He.free_ok X G (c.t.d.fact 50 (f := .free "enumerate") rfl))
  have g_max := (He.free_ok X G (c.t.d.fact 51 (f := .free "max") rfl))
  have g_min := (He.free_ok X G (c.t.d.fact 52 (f := .free "min") rfl))
  have g_list := (He.free_ok X G (c.t.d.fact 53 (f := .free "list") rfl))
  have g_isinstance := (He.free_ok X G (c.t.d.fact 54 (f := .free "isinstance") rfl))
  have g_zip := (He.free_ok X G (c.t.d.fact 55 (f := .free "zip") rfl))
  have g_ValueError := (He.free_ok X G (c.t.d.fact 56 (f := .free "ValueError") rfl))
  have ety := hfa.symm.trans D_law.g
  cases ety
  obtain ⟨loc, lod, lkV, ldoc, lpm, lan, lcdv, lct, losl, lfd, llk, lhcd⟩ := D_law.F.ex
  obtain ⟨c0, hc0⟩ := He.codeIn_ref lhcd
  have hcd0 : fd_law.code = .ref (He.cT K ("law", none)).1 := by
    have e1 : He.codeOf K ("law", none) = c0 := He.codeOf_eq (p := ("law", none)) llk (by rw [lfd]; exact hc0)
    show fd_law.code = .ref (He.codeOf K ("law", none))
    rw [e1, lfd]
    exact hc0
  refine ⟨fd_law, hTf.map (He.cT K), spLaw K (He.cT K ("law", none)).2, ?_, ?_, ?_, ?_, ?_, ?_⟩
  · intro p hp
    obtain ⟨q, hq, rfl⟩ := List.mem_map.mp hp
    exact c.empty q hq
  · intro p hp
    obtain ⟨q, hq, rfl⟩ := List.mem_map.mp hp
    exact c.out q hq
  · intro p hp
    obtain ⟨q, hq, rfl⟩ := List.mem_map.mp hp
    exact PySem.W.codeHd_of_K X (c.hd q hq)
  · intro s u
    rw [lfd]
    exact .of_eq rfl
  · intro H a ns hl _ hT hS
    exact ⟨a, ns, rfl, hl, hS, hT _ (List.mem_map.mpr ⟨("law", none), List.mem_singleton.mpr rfl, rfl⟩), fun _ => rfl⟩
  intro base hK hns hTB
  have TB := hTB (He.cT K ("law", none)) (List.mem_map.mpr ⟨("law", none), List.mem_singleton.mpr rfl, rfl⟩)
  have GBad : FnOk PySem.Challenge.rw_tierpile_k05_whole_blocks_within.prog w K mg base CX0 1 (badI K) fm_BadText___init__ ["self", "line", "column"] (spBad K) := ok_bad F_BadText___init__ (He.glo_ok X G (c.t.d.fact 24 (f := .glo "TierError") rfl)) cr.1 cr.2
  have xM : ExC K mg "NoMark" (He.ga K "NoMark") (badI K) := ⟨eM.o, eM.i, eM.nl, eM.nc, (He.glo_ok X G (c.t.d.fact 30 (f := .glo "NoMark") rfl))⟩
  have xN : ExC K mg "NoBlock" (He.ga K "NoBlock") (badI K) := ⟨eN.o, eN.i, eN.nl, eN.nc, (He.glo_ok X G (c.t.d.fact 26 (f := .glo "NoBlock") rfl))⟩
  have xT : ExC K mg "TooDeep" (He.ga K "TooDeep") (badI K) := ⟨eT.o, eT.i, eT.nl, eT.nc, (He.glo_ok X G (c.t.d.fact 38 (f := .glo "TooDeep") rfl))⟩
  have CC : Consts K mg (He.ga K "KEYS") (He.ga K "SIGNS") := ⟨He.str_ok X G (c.t.d.fact 59 (f := .str "LETTERS" letS) rfl), He.str_ok X G (c.t.d.fact 60 (f := .str "FIGURES" figS) rfl), (He.glo_ok X G (c.t.d.fact 41 (f := .glo "KEYS") rfl)), fun H => He.tupB_ok x1 H, (He.glo_ok X G (c.t.d.fact 42 (f := .glo "SIGNS") rfl)), fun H => He.tupB_ok x2 H, g_len⟩
  have GMA := ok_markAt (P := PySem.Challenge.rw_tierpile_k05_whole_blocks_within.prog) (w := w) (base := base) D_mark_at.F D_run_of CC xM GBad b_BadText___init__ tyB
  have GM := ok_marks D_marks.F D_mark_at GMA g_len g_enumerate
  have LX : LyX PySem.Challenge.rw_tierpile_k05_whole_blocks_within.prog w K mg base (He.ga K "NoBlock") (He.ga K "TooDeep") (badI K) fm_BadText___init__ := ⟨xN, xT, GBad, b_BadText___init__, tyB, He.int_ok X G (c.t.d.fact 57 (f := .int "MOST_OPEN" 24) rfl), He.int_ok X G (c.t.d.fact 58 (f := .int "BRACKET" (-1)) rfl), g_len, g_max⟩
  have LC : LyC K (He.ga K "Layout") := ⟨He.cls_ok (c.t.d.fact 61 (f := .cls "Layout") rfl), He.noat_ok (c.t.d.fact 62 (f := .noat "Layout" "told") rfl), He.noat_ok (c.t.d.fact 63 (f := .noat "Layout" "stack") rfl)⟩
  have ML : Mt K (He.ga K "Layout") "lay" "Layout.lay" sLyLay _ _ ["self", "sign", "line", "column"] := ⟨F_Layout_lay, He.meth_ok (c.t.d.fact 65 (f := .meth "Layout" "lay") rfl), b_Layout_lay⟩
  have MG : Mt K (He.ga K "Layout") "begin" "Layout.begin" sLyBegin _ _ ["self", "column", "mark"] := ⟨F_Layout_begin, He.meth_ok (c.t.d.fact 66 (f := .meth "Layout" "begin") rfl), b_Layout_begin⟩
  have MB : Mt K (He.ga K "Layout") "block" "Layout.block" sLyBlock _ _ ["self", "mark"] := ⟨F_Layout_block, He.meth_ok (c.t.d.fact 67 (f := .meth "Layout" "block") rfl), b_Layout_block⟩
  have MF : Mt K (He.ga K "Layout") "first_of_line" "Layout.first_of_line" sLyFirst _ _ ["self", "mark"] := ⟨F_Layout_first_of_line, He.meth_ok (c.t.d.fact 68 (f := .meth "Layout" "first_of_line") rfl), b_Layout_first_of_line⟩
  have MR : Mt K (He.ga K "Layout") "bracket" "Layout.bracket" sLyBrk _ _ ["self", "mark"] := ⟨F_Layout_bracket, He.meth_ok (c.t.d.fact 69 (f := .meth "Layout" "bracket") rfl), b_Layout_bracket⟩
  have MP : Mt K (He.ga K "Layout") "put" "Layout.put" sLyPut _ _ ["self", "mark", "ahead"] := ⟨F_Layout_put, He.meth_ok (c.t.d.fact 70 (f := .meth "Layout" "put") rfl), b_Layout_put⟩
  have GP := ok_put (P := PySem.Challenge.rw_tierpile_k05_whole_blocks_within.prog) (w := w) (base := base) F_Layout_put LC LX ML MG MB MF MR
  have GLd := ok_laid D_laid.F LC LX (He.glo_ok X G (c.t.d.fact 43 (f := .glo "Layout") rfl)) (He.mkr_ok (c.t.d.fact 64 (f := .mkr "Layout") rfl)) F_Layout___init__ b_Layout___init__ ML MP GP D_marks GM g_reversed g_list
  have GIs := ok_is D__law_is_laid.F D_marks GM g_reversed
  have GDr : Draw PySem.Challenge.rw_tierpile_k05_whole_blocks_within.prog w K mg base _ _ := ok_draw D__law_draw.F
  have GLi := ok_line (P := PySem.Challenge.rw_tierpile_k05_whole_blocks_within.prog) (w := w) (base := base) D__law_line.F D__law_draw g_range
  have GWd := ok_word (P := PySem.Challenge.rw_tierpile_k05_whole_blocks_within.prog) (w := w) (base := base) D__law_word.F D__law_draw D__law_line g_range g_len g_int
  have GIt := ok_item D__law_item.F D__law_line GLi
  have GBk := ok_block D__law_block.F D__law_draw D__law_item GIt
  have GLv := ok_level (P := PySem.Challenge.rw_tierpile_k05_whole_blocks_within.prog) (w := w) (mg := mg) (base := base) D__law_level.F
  have SM : Small PySem.Challenge.rw_tierpile_k05_whole_blocks_within.prog w K mg base _ _ _ _ _ _ _ _ _ _ := ⟨D__law_draw, D__law_word, D__law_item, D__law_block, D__law_level, GDr, GWd, GIt, GBk, GLv⟩
  have GW := writers SM g_str g_int g_tuple g_reversed D__law_write_block D__law_write_so D__law_write 6
  have GWr := ok_written (kW := 22) (by decide) D__law_written.F D__law_draw D__law_line GLi D__law_word GWd D__law_write GW g_enumerate g_tuple
  have GNa := ok_names (P := PySem.Challenge.rw_tierpile_k05_whole_blocks_within.prog) (w := w) (base := base) D__law_names.F D__law_draw D__law_keys g_range g_int
  have GLe := ok_lean D__law_lean.F D__law_draw D__law_names GNa g_range g_tuple
  have GCo := ok_cols (P := PySem.Challenge.rw_tierpile_k05_whole_blocks_within.prog) (w := w) (base := base) D__law_columns_text.F D__law_draw D__law_keys g_range g_int g_len
  have GDs := ok_draws (P := PySem.Challenge.rw_tierpile_k05_whole_blocks_within.prog) (w := w) (base := base) D__law_draws.F g_len g_int
  have GKi := ok_kind (P := PySem.Challenge.rw_tierpile_k05_whole_blocks_within.prog) (w := w) (base := base) D__law_kind_of.F CG g_isinstance g_zip g_ValueError
  have GRf := ok_refusal D__law_refusal.F D__law_kind_of GKi CG g_isinstance
  exact ok_law D_law.F hcd0 TB ⟨D__law_draws, D__law_lean, D__law_written, D_laid, D__law_is_laid, D__law_columns_text, D__law_told, D__law_refusal, GDs, GLe, GWr, GLd, GIs, GCo, GRf, (He.glo_ok X G (c.t.d.fact 24 (f := .glo "TierError") rfl)), eM.k, eN.k, eT.k, eM.m, eN.m, eT.m⟩ g_range g_len g_max g_min
end
end TP
set_option maxRecDepth 100000
set_option maxHeartbeats 0
open PySem PySem.W PySem.Calls PyProof.Rows
theorem PySem.Challenge.cw_tierpile_k05_whole_blocks_within_holds : PySem.Challenge.rw_tierpile_k05_whole_blocks_within.Holds := by
  w_on; o_law
  refine HandSHeadRun.head_any (r := OpenLaw.row PySem.Challenge.rw_tierpile_k05_whole_blocks_within) (q := view (OpenLaw.row PySem.Challenge.rw_tierpile_k05_whole_blocks_within).prog [51]) (H := TP.hHook) (ob := TP.hOb) (M := 6000) (loose := TP.hNs) (d := HandSHeadRun.topDef (OpenLaw.row PySem.Challenge.rw_tierpile_k05_whole_blocks_within).prog 51) (kwd := []) TP.hOb_eq
    (by kernel_rfl) (fun s => by kernel_rfl) TP.hRun (by kernel_rfl) (by kernel_rfl) (by kernel_rfl) (by rfl) (by first | assumption | decide +kernel) (by decide +kernel) ⟨rfl, rfl, rfl, rfl, rfl, by decide +kernel⟩ ?hw ?hc
  case hw => w_witness2
  case hc =>
    refine LamX.walk_ofTsE (l := PySem.Challenge.rw_tierpile_k05_whole_blocks_within) (n := 63) (k := 25) (x := "script") (CX := fun _ => L2.CX0) rfl (by decide) (by kernel_rfl) ⟨rfl, by decide, by decide⟩ ?F (fun _ _ _ _ _ z => z)
    intro w mg fa h Y G hmg0
    obtain ⟨K, KX, c⟩ := Y
    have hmg : mg ("law" : PySem.Str) = some (.ref fa) := by
      have e : (HandSHeadRun.topDef (OpenLaw.row PySem.Challenge.rw_tierpile_k05_whole_blocks_within).prog 51).name = ("law" : PySem.Str) := by kernel_rfl
      rw [← e]
      exact hmg0
    exact ⟨K, KX, TP.law_at KX G c hmg⟩
