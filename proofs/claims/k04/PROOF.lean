import PyProof.Rows.All
import Wide.All
import OpenK.AllK
import Wide.FinOn
import PySem.Challenge.RW_bitloom_k04_whole_wrong_places
import HandS.ForMost
import HandS.ForExc
import HandS.Sort
import HandS.More
import HandS.Evl
import HandS.Walk
import HandS.Text
import HandS.StrMore
import HandS.ExcInit
import HandS.ExcField
import HandS.Nested
import KE.KExcSuper
import KE.IntTextLaws
import HandS.Style
import HandS.IsInst
import HandS.Small
import PyProof.ReprRoads
import HandS.Ends
section
set_option Elab.async false
set_option maxRecDepth 100000
open PySem PySem.W PyProof.Rows
set_option maxHeartbeats 0
namespace K04
open_top head for PySem.Challenge.rw_bitloom_k04_whole_wrong_places
end K04
end

section
set_option Elab.async false
set_option maxRecDepth 100000
set_option maxHeartbeats 4000000
/-! K1: texts, lexemes, the forms as a table, and the walk over the forms, in plain Lean. -/
namespace K04
open PySem

/-! ### lexemes -/
inductive Kd where | fin | sign | numeral | keyword | name | bad
  deriving DecidableEq, Repr
structure Lx where
  kd : Kd
  tx : List Nat
  pl : Nat
  deriving DecidableEq, Repr

def S (l : List Nat) : Str := ⟨l.toArray⟩
theorem S_codes (l : List Nat) : (S l).cps.toList = l := by simp [S]
theorem S_of (z : Str) : S z.cps.toList = z := by cases z; simp [S]
theorem S_inj {a b : List Nat} (h : S a = S b) : a = b := by
  rw [← S_codes a, ← S_codes b, h]
theorem S_len (l : List Nat) : (S l).length = l.length := by simp [S, Str.length]

def BL : Str := " \n"
def FIG : Str := "0123456789"
def LET : Str := "abcdefghijklmnopqrstuvwxyz"
def SGN : Str := "abcdefghijklmnopqrstuvwxyz0123456789_"
def SGL : Str := "{}()[];,.:=?!@#+-*/<~&|^"
def PRS : List Str := ["<<", ">>", "==", "<-"]
def KWS : List Str := ["design", "module", "size", "in", "out", "wire", "reg", "mem", "bits", "for", "to", "when", "else", "top"]
def inS (z : Str) (c : Nat) : Bool := decide (c ∈ z.cps.toList)

def gapF : Nat → List Nat → List Nat
  | 0, u => u
  | n + 1, u =>
    let v := u.dropWhile (inS BL)
    if v.take 2 = [47, 47] then gapF n (v.dropWhile fun c => decide (c ≠ 10)) else v
def numT (c : Nat) (v : List Nat) : List Nat := if c = 48 then [c] else v.takeWhile (inS FIG)
def runT (c : Nat) (v : List Nat) : List Nat := if inS LET c = true then v.takeWhile (inS SGN) else []
def lexV : List Nat → Kd × List Nat
  | [] => (.fin, [])
  | c :: r =>
    if S ((c :: r).take 2) ∈ PRS then (.sign, (c :: r).take 2)
    else if inS SGL c = true then (.sign, [c])
    else if inS FIG c = true then (.numeral, numT c (c :: r))
    else if runT c (c :: r) = [] ∨ 16 < (runT c (c :: r)).length then (.bad, [])
    else if S (runT c (c :: r)) ∈ KWS then (.keyword, runT c (c :: r))
    else (.name, runT c (c :: r))
def gapA (t : List Nat) (p : Nat) : List Nat := gapF (t.length + 1) (t.drop p)
def lexAt (t : List Nat) (p : Nat) : Lx := ⟨(lexV (gapA t p)).1, (lexV (gapA t p)).2, t.length - (gapA t p).length⟩
def nx (t : List Nat) (l : Lx) : Lx := lexAt t (l.pl + l.tx.length)

theorem dropWhile_len {α : Type} (f : α → Bool) : ∀ u : List α, (u.dropWhile f).length ≤ u.length
  | [] => Nat.le_refl _
  | a :: r => by
    rw [List.dropWhile_cons]
    split
    · exact Nat.le_succ_of_le (dropWhile_len f r)
    · exact Nat.le_refl _
theorem takeWhile_len {α : Type} (f : α → Bool) : ∀ u : List α, (u.takeWhile f).length ≤ u.length
  | [] => Nat.le_refl _
  | a :: r => by
    rw [List.takeWhile_cons]
    split
    · exact Nat.succ_le_succ (takeWhile_len f r)
    · exact Nat.zero_le _
theorem gapF_len : ∀ (n : Nat) (u : List Nat), (gapF n u).length ≤ u.length
  | 0, _ => Nat.le_refl _
  | n + 1, u => by
    unfold gapF
    dsimp only
    split
    · exact Nat.le_trans (gapF_len n _) (Nat.le_trans (dropWhile_len _ _) (dropWhile_len _ _))
    · exact dropWhile_len _ _
theorem lexV_len (v : List Nat) : (lexV v).2.length ≤ v.length := by
  cases v with
  | nil => exact Nat.le_refl _
  | cons c r =>
    have h1 : ((c :: r).take 2).length ≤ (c :: r).length := List.length_take_le' _ _
    have h2 : (numT c (c :: r)).length ≤ (c :: r).length := by
      unfold numT
      split
      · exact Nat.succ_le_succ (Nat.zero_le _)
      · exact takeWhile_len _ _
    have h3 : (runT c (c :: r)).length ≤ (c :: r).length := by
      unfold runT
      split
      · exact takeWhile_len _ _
      · exact Nat.zero_le _
    dsimp only [lexV]
    split
    · exact h1
    split
    · exact Nat.succ_le_succ (Nat.zero_le _)
    split
    · exact h2
    split
    · exact Nat.zero_le _
    split <;> exact h3
def real (k : Kd) : Bool := match k with | .fin => false | .bad => false | _ => true
theorem numT_ne {c : Nat} {r : List Nat} (h : inS FIG c = true) : numT c (c :: r) ≠ [] := by
  unfold numT
  split
  · exact fun q => nomatch q
  · rw [List.takeWhile_cons, if_pos h]
    exact fun q => nomatch q
theorem lexV_real (v : List Nat) : real (lexV v).1 = !(lexV v).2.isEmpty := by
  cases v with
  | nil => rfl
  | cons c r =>
    dsimp only [lexV]
    split
    · cases r <;> rfl
    split
    · rfl
    split
    · rename_i h
      have e := numT_ne (r := r) h
      cases q : numT c (c :: r) with
      | nil => exact absurd q e
      | cons _ _ => rfl
    split
    · rfl
    · rename_i h
      have e : runT c (c :: r) ≠ [] := fun q => h (Or.inl q)
      cases q : runT c (c :: r) with
      | nil => exact absurd q e
      | cons _ _ => split <;> rfl

/-- the signs and keywords of the forms -/
def SGT : List Str := ["{", "}", "(", ")", "[", "]", ";", ",", ".", ":", "=", "?", "!", "@", "#", "+", "-", "*", "/", "<", "~", "&", "|", "^", "<<", ">>", "==", "<-"]
theorem sgt_head : (SGT.all fun z => match z.cps.toList with | [] => false | c :: _ => !inS FIG c && !inS LET c) = true := by decide +kernel
theorem kws_head : (KWS.all fun z => match z.cps.toList with | [] => false | c :: r => !inS FIG c && !r.isEmpty) = true := by decide +kernel
theorem sgt_kws : (SGT.all fun z => !KWS.contains z) = true := by decide +kernel
theorem prs_kws : (PRS.all fun z => !KWS.contains z) = true := by decide +kernel
theorem sgt_ne {c : Nat} {r : List Nat} (h : S (c :: r) ∈ SGT) : inS FIG c = false ∧ inS LET c = false := by
  have q := List.all_eq_true.mp sgt_head _ h
  rw [S_codes] at q
  simpa using q
theorem kws_ne {c : Nat} {r : List Nat} (h : S (c :: r) ∈ KWS) : inS FIG c = false ∧ r ≠ [] := by
  have q := List.all_eq_true.mp kws_head _ h
  rw [S_codes] at q
  simpa using q
theorem not_nil_sgt : S [] ∉ SGT := by decide +kernel
theorem not_nil_kws : S [] ∉ KWS := by decide +kernel
theorem take_pre (n : Nat) (v : List Nat) : v.take n <+: v := List.take_prefix n v
theorem while_pre (f : Nat → Bool) : ∀ v : List Nat, v.takeWhile f <+: v := fun v => List.takeWhile_prefix f
theorem num_pre (c : Nat) (r : List Nat) : numT c (c :: r) <+: c :: r := by
  unfold numT
  split
  · exact ⟨r, rfl⟩
  · exact while_pre _ _
theorem run_pre (c : Nat) (r : List Nat) : runT c (c :: r) <+: c :: r := by
  unfold runT
  split
  · exact while_pre _ _
  · exact List.nil_prefix
theorem num_cons {c : Nat} {r : List Nat} (h : inS FIG c = true) : ∃ u, numT c (c :: r) = c :: u := by
  obtain ⟨v, e⟩ := num_pre c r
  cases q : numT c (c :: r) with
  | nil => exact absurd q (numT_ne h)
  | cons a u =>
    rw [q] at e
    exact ⟨u, by rw [(List.cons.inj e).1]⟩
theorem run_cons {c : Nat} {r : List Nat} (h : runT c (c :: r) ≠ []) : ∃ u, runT c (c :: r) = c :: u ∧ inS LET c = true := by
  obtain ⟨v, e⟩ := run_pre c r
  cases q : runT c (c :: r) with
  | nil => exact absurd q h
  | cons a u =>
    rw [q] at e
    refine ⟨u, by rw [(List.cons.inj e).1], ?_⟩
    cases z : inS LET c with
    | true => rfl
    | false =>
      unfold runT at q
      rw [if_neg (by rw [z]; decide)] at q
      cases q
/-- what the kind has to do with the text -/
theorem lexV_kinds (v : List Nat) : (lexV v).2 <+: v ∧ (S (lexV v).2 ∈ SGT → (lexV v).1 = .sign) ∧ (S (lexV v).2 ∈ KWS → (lexV v).1 = .keyword) := by
  cases v with
  | nil => exact ⟨List.nil_prefix, fun h => absurd h not_nil_sgt, fun h => absurd h not_nil_kws⟩
  | cons c r =>
    dsimp only [lexV]
    split
    · rename_i h
      refine ⟨take_pre _ _, fun _ => rfl, fun h2 => ?_⟩
      have q := List.all_eq_true.mp prs_kws _ h
      rw [List.contains_iff_mem.mpr h2] at q
      cases q
    split
    · exact ⟨⟨r, rfl⟩, fun _ => rfl, fun h2 => absurd rfl (kws_ne h2).2⟩
    split
    · rename_i h
      obtain ⟨u, e⟩ := num_cons (r := r) h
      refine ⟨num_pre c r, fun h2 => ?_, fun h2 => ?_⟩
      · rw [e] at h2
        rw [(sgt_ne h2).1] at h
        cases h
      · rw [e] at h2
        rw [(kws_ne h2).1] at h
        cases h
    split
    · exact ⟨List.nil_prefix, fun h => absurd h not_nil_sgt, fun h => absurd h not_nil_kws⟩
    · rename_i h
      obtain ⟨u, e, hl⟩ := run_cons (c := c) (r := r) fun q => h (Or.inl q)
      have nos : S (runT c (c :: r)) ∉ SGT := fun h2 => by
        rw [e] at h2
        rw [(sgt_ne h2).2] at hl
        cases hl
      split
      · exact ⟨run_pre c r, fun h2 => absurd h2 nos, fun _ => rfl⟩
      · rename_i h3
        exact ⟨run_pre c r, fun h2 => absurd h2 nos, fun h2 => absurd h2 h3⟩
theorem run_all1 (f : Nat → Bool) : ∀ u : List Nat, (u.takeWhile f).all f = true
  | [] => rfl
  | a :: r => by
    rw [List.takeWhile_cons]
    split
    · rename_i h
      rw [List.all_cons, h, run_all1 f r]
      rfl
    · rfl
theorem numT_all {c : Nat} {r : List Nat} (h : inS FIG c = true) : (numT c (c :: r)).all (inS FIG) = true := by
  unfold numT
  split
  · rw [List.all_cons, h]
    rfl
  · exact run_all1 _ _
theorem lexV_digits (v : List Nat) : (lexV v).1 = .numeral → (lexV v).2.all (inS FIG) = true := by
  cases v with
  | nil => exact fun h => nomatch h
  | cons c r =>
    dsimp only [lexV]
    split
    · exact fun h => nomatch h
    split
    · exact fun h => nomatch h
    split
    · rename_i h
      exact fun _ => numT_all h
    split
    · exact fun h => nomatch h
    split <;> exact fun h => nomatch h
theorem dropWhile_suf (f : Nat → Bool) (u : List Nat) : u.dropWhile f <:+ u := List.dropWhile_suffix f
theorem gapF_suf : ∀ (n : Nat) (u : List Nat), gapF n u <:+ u
  | 0, u => List.suffix_refl u
  | n + 1, u => by
    unfold gapF
    dsimp only
    split
    · exact (gapF_suf n _).trans ((dropWhile_suf _ _).trans (dropWhile_suf _ _))
    · exact dropWhile_suf _ _
theorem suf_drop {v t : List Nat} (h : v <:+ t) : t.drop (t.length - v.length) = v := by
  obtain ⟨a, e⟩ := h
  rw [← e, List.length_append, show a.length + v.length - v.length = a.length by omega, List.drop_left]
/-- what holds of each lexeme of a text -/
structure LxOk (t : List Nat) (l : Lx) : Prop where
  rl : real l.kd = !l.tx.isEmpty
  le : l.pl + l.tx.length ≤ t.length
  pre : l.tx <+: t.drop l.pl
  sg : S l.tx ∈ SGT → l.kd = .sign
  kw : S l.tx ∈ KWS → l.kd = .keyword
  dg : l.kd = .numeral → l.tx.all (inS FIG) = true
theorem gapA_len (t : List Nat) (p : Nat) : (gapA t p).length ≤ t.length - p := by
  have h := gapF_len (t.length + 1) (t.drop p)
  rw [List.length_drop] at h
  exact h
theorem lexAt_ok (t : List Nat) (p : Nat) : LxOk t (lexAt t p) := by
  have hk := lexV_kinds (gapA t p)
  have hs : gapA t p <:+ t := (gapF_suf _ _).trans (List.drop_suffix _ _)
  refine ⟨lexV_real _, ?_, ?_, hk.2.1, hk.2.2, lexV_digits _⟩
  · have h1 := gapA_len t p
    have h2 := lexV_len (gapA t p)
    show t.length - (gapA t p).length + (lexV (gapA t p)).2.length ≤ t.length
    omega
  · show (lexV (gapA t p)).2 <+: t.drop (t.length - (gapA t p).length)
    rw [suf_drop hs]
    exact hk.1
theorem lexAt_ge {t : List Nat} {p : Nat} (h : p ≤ t.length) : p ≤ (lexAt t p).pl := by
  have h1 := gapA_len t p
  show p ≤ t.length - (gapA t p).length
  omega
theorem nx_ok (t : List Nat) (l : Lx) : LxOk t (nx t l) := lexAt_ok _ _
theorem nx_ge {t : List Nat} {l : Lx} (h : LxOk t l) : l.pl + l.tx.length ≤ (nx t l).pl := lexAt_ge h.le
def rem (t : List Nat) (l : Lx) : Nat := t.length + 1 - l.pl
theorem nx_lt {t : List Nat} {l : Lx} (h : LxOk t l) (hk : l.tx ≠ []) : rem t (nx t l) < rem t l := by
  have h1 := nx_ge h
  have h2 := h.le
  have h3 := (nx_ok t l).le
  have h4 : 0 < l.tx.length := List.length_pos_iff.mpr hk
  unfold rem
  omega

/-! ### what opens a part -/
def isN (c : Nat) : Bool := c == 40 || c == 64 || c == 63 || c == 123
def nest (t : List Nat) (l : Lx) : Nat := (t.drop l.pl).countP isN
theorem nest_le {t : List Nat} {l l' : Lx} (h : l.pl ≤ l'.pl) : nest t l' ≤ nest t l := by
  unfold nest
  obtain ⟨d, e⟩ := Nat.exists_eq_add_of_le h
  rw [e, ← List.drop_drop]
  exact List.Sublist.countP_le (List.drop_sublist _ _)
theorem nest_nx {t : List Nat} {l : Lx} (h : LxOk t l) : nest t (nx t l) + l.tx.countP isN ≤ nest t l := by
  obtain ⟨u, e⟩ := h.pre
  have e2 : t.drop (l.pl + l.tx.length) = u := by rw [← List.drop_drop, ← e, List.drop_left]
  have h1 : nest t (nx t l) ≤ u.countP isN := by
    rw [← e2]
    unfold nest
    obtain ⟨d, e3⟩ := Nat.exists_eq_add_of_le (nx_ge h)
    rw [e3, ← List.drop_drop]
    exact List.Sublist.countP_le (List.drop_sublist _ _)
  have h2 : nest t l = l.tx.countP isN + u.countP isN := by
    unfold nest
    rw [← e, List.countP_append]
  omega

/-! ### the forms -/
abbrev Row := Option (List Str) × List Str
def tab : List (Str × List Row) := [
  ("DESIGN", [(none, ["design", "{", "MODULE", "MODULES", "top", "NAME", "SIZES", ";", "}", "END"])]),
  ("MODULES", [(some ["module"], ["MODULE", "MODULES"]),
    (none, [])]),
  ("MODULE", [(none, ["module", "NAME", "SIZENAMES", "{", "ITEMS", "}"])]),
  ("SIZENAMES", [(some ["size"], ["size", "NAME", "MORENAMES"]),
    (none, [])]),
  ("MORENAMES", [(some [","], [",", "NAME", "MORENAMES"]),
    (none, [])]),
  ("SIZES", [(some ["size"], ["size", "NUM", "MORENUMS"]),
    (none, [])]),
  ("MORENUMS", [(some [","], [",", "NUM", "MORENUMS"]),
    (none, [])]),
  ("ITEMS", [(some ["}"], []),
    (none, ["ITEM", "ITEMS"])]),
  ("ITEM", [(some ["in", "out", "wire"], ["ANY", "NAME", "bits", "NUM", ";"]),
    (some ["reg"], ["reg", "NAME", "bits", "NUM", "=", "NUM", "<-", "E", ";"]),
    (some ["mem"], ["mem", "NAME", "[", "NUM", "]", "bits", "NUM", "[", "E", "]", "<-", "E", "when", "E", ";"]),
    (some ["for"], ["for", "NAME", "=", "NUM", "to", "NUM", "{", "ITEMS", "}"]),
    (some ["when"], ["when", "NUM", "{", "ITEMS", "}", "ELSE"]),
    (none, ["NAME", "NAMED"])]),
  ("ELSE", [(some ["else"], ["else", "{", "ITEM", "ITEMS", "}"]),
    (none, [])]),
  ("NAMED", [(some ["["], ["[", "NUM", "MORENUMS", "]", "=", "E", ";"]),
    (some [":"], [":", "NAME", "SIZES", "(", "PORTS", ")", ";"]),
    (none, ["=", "E", ";"])]),
  ("PORTS", [(some [")"], []),
    (none, ["PORT", "MOREPORTS"])]),
  ("MOREPORTS", [(some [","], [",", "PORT", "MOREPORTS"]),
    (none, [])]),
  ("PORT", [(none, ["NAME", "=", "E"])]),
  ("NUM", [(none, ["NUMPART", "NUMTAIL"])]),
  ("NUMTAIL", [(some ["*", "/", "+", "-", "<", "=="], ["ANY", "NUMPART", "NUMTAIL"]),
    (none, [])]),
  ("E", [(none, ["PART", "TAIL"])]),
  ("TAIL", [(some ["!", "*", "+", "-", "#", "<<", ">>", "<", "==", "&", "^", "|"], ["ANY", "PART", "TAIL"]),
    (some ["?"], ["?", "E", ":", "E"]),
    (none, [])]),
  ("PART", [(some ["~", "&", "|", "^"], ["ANY", "PART"]),
    (none, ["ATOM", "CUTS"])]),
  ("CUTS", [(some ["{"], ["{", "NUM", ":", "NUM", "}", "CUTS"]),
    (none, [])]),
  ("ATOM", [(some ["("], ["(", "E", ")"]),
    (some ["bits"], ["bits", "(", "NUM", ",", "NUM", ")"]),
    (none, ["NAME", "AT", "BEHIND"])]),
  ("AT", [(some ["["], ["[", "NUM", "MORENUMS", "]"]),
    (none, [])]),
  ("BEHIND", [(some ["."], [".", "NAME"]),
    (some ["@"], ["@", "ATOM"]),
    (none, [])]),
  ("EWHOLE", [(none, ["E", "END"])]),
  ("NUMWHOLE", [(none, ["NUM", "END"])])]
def rowsOf (s : Str) : Option (List Row) := tab.lookup s
def rowFits (x : Str) (r : Row) : Bool := match r.1 with
  | none => true
  | some hs => hs.contains x
def pickRow (rows : List Row) (x : Str) : List Str := match rows.find? (rowFits x) with
  | some r => r.2
  | none => []
def fitsB (l : Lx) (s : Str) : Bool :=
  if s = ("NAME" : Str) then l.kd == .name
  else if s = ("NUMERAL" : Str) then l.kd == .numeral
  else if s = ("END" : Str) then l.kd == .fin
  else if s = ("NUMPART" : Str) then l.kd == .name || l.kd == .numeral
  else if s = ("ANY" : Str) then !l.tx.isEmpty
  else (l.kd == .sign || l.kd == .keyword) && decide (S l.tx = s)
inductive Out where | go (st : List Str) (l : Lx) | fin | fail (p : Nat)
def step1 (t : List Nat) (s : Str) (st : List Str) (l : Lx) : Out := match rowsOf s with
  | some rows => .go (pickRow rows (S l.tx) ++ st) l
  | none =>
    if s = ("NUMPART" : Str) ∧ S l.tx = ("(" : Str) then .go ("(" :: "NUM" :: ")" :: st) l
    else if fitsB l s = true then .go st (nx t l) else .fail l.pl
def step (t : List Nat) : List Str → Lx → Out
  | [], _ => .fin
  | s :: st, l => step1 t s st l
def long (st : List Str) (l : Lx) : Bool := match st with
  | [] => false
  | s :: _ => decide (s = ("NUMPART" : Str)) && l.kd == .numeral && decide (600 < l.tx.length)
/-- the walk's end: the wrong place, or none; and whether a number too long to be read was met -/
def out (t : List Nat) : Nat → List Str → Lx → Option (Option Nat × Bool)
  | 0, _, _ => none
  | n + 1, st, l => match step t st l with
    | .fin => some (none, false)
    | .fail p => some (some p, false)
    | .go st' l' => (out t n st' l').map fun r => (r.1, r.2 || long st l)

/-- the walk comes from here to the end r, without such a number -/
def Rn (t : List Nat) (r : Option Nat) (st : List Str) (l : Lx) : Prop := ∃ n, out t n st l = some (r, false)
section
variable {t : List Nat} {r : Option Nat} {s : Str} {st st' : List Str} {l l' : Lx}
theorem Rn.go (h : Rn t r st l) (e : step t st l = .go st' l') : Rn t r st' l' := by
  obtain ⟨n, h⟩ := h
  cases n with
  | zero => cases h
  | succ n =>
    unfold out at h
    rw [e] at h
    dsimp only at h
    cases q : out t n st' l' with
    | none => rw [q] at h; cases h
    | some y =>
      rw [q] at h
      obtain ⟨y1, y2⟩ := y
      simp only [Option.map_some, Option.some.injEq, Prod.mk.injEq, Bool.or_eq_false_iff] at h
      obtain ⟨h1, h2, h3⟩ := h
      subst h1 h2
      exact ⟨n, q⟩
theorem Rn.short (h : Rn t r st l) (e : step t st l = .go st' l') : long st l = false := by
  obtain ⟨n, h⟩ := h
  cases n with
  | zero => cases h
  | succ n =>
    unfold out at h
    rw [e] at h
    dsimp only at h
    cases q : out t n st' l' with
    | none => rw [q] at h; cases h
    | some y =>
      rw [q] at h
      obtain ⟨y1, y2⟩ := y
      simp only [Option.map_some, Option.some.injEq, Prod.mk.injEq, Bool.or_eq_false_iff] at h
      exact h.2.2
theorem Rn.bad {p : Nat} (h : Rn t r st l) (e : step t st l = .fail p) : r = some p := by
  obtain ⟨n, h⟩ := h
  cases n with
  | zero => cases h
  | succ n =>
    unfold out at h
    rw [e] at h
    simp only [Option.some.injEq, Prod.mk.injEq] at h
    exact h.1.symm
theorem Rn.fin (h : Rn t r [] l) : r = none := by
  obtain ⟨n, h⟩ := h
  cases n with
  | zero => cases h
  | succ n =>
    unfold out step at h
    simp only [Option.some.injEq, Prod.mk.injEq] at h
    exact h.1.symm
/-- one row -/
theorem Rn.row {rows : List Row} {b : List Str} (h : Rn t r (s :: st) l) (e : rowsOf s = some rows) (hb : pickRow rows (S l.tx) = b) : Rn t r (b ++ st) l := by
  refine h.go ?_
  show step1 t s st l = _
  unfold step1
  rw [e, ← hb]
/-- a lexeme taken -/
theorem Rn.eat (h : Rn t r (s :: st) l) (e : rowsOf s = none) (hn : s ≠ ("NUMPART" : Str)) (hf : fitsB l s = true) : Rn t r st (nx t l) := by
  refine h.go ?_
  show step1 t s st l = _
  unfold step1
  rw [e]
  dsimp only
  rw [if_neg (fun q => hn q.1), if_pos hf]
theorem Rn.not (h : Rn t r (s :: st) l) (e : rowsOf s = none) (hn : s ≠ ("NUMPART" : Str)) (hf : fitsB l s = false) : r = some l.pl := by
  refine h.bad ?_
  show step1 t s st l = _
  unfold step1
  rw [e]
  dsimp only
  rw [if_neg (fun q => hn q.1), if_neg (by rw [hf]; decide)]
theorem Rn.part (h : Rn t r ("NUMPART" :: st) l) (hx : S l.tx = ("(" : Str)) : Rn t r ("(" :: "NUM" :: ")" :: st) l := by
  refine h.go ?_
  show step1 t "NUMPART" st l = _
  unfold step1
  rw [show rowsOf "NUMPART" = none by decide +kernel]
  dsimp only
  rw [if_pos ⟨rfl, hx⟩]
theorem Rn.partNo (h : Rn t r ("NUMPART" :: st) l) (hx : S l.tx ≠ ("(" : Str)) (hk : (l.kd == .name || l.kd == .numeral) = false) : r = some l.pl := by
  refine h.bad ?_
  show step1 t "NUMPART" st l = _
  unfold step1
  rw [show rowsOf "NUMPART" = none by decide +kernel]
  dsimp only
  have e : fitsB l "NUMPART" = (l.kd == .name || l.kd == .numeral) := by
    unfold fitsB
    rw [if_neg (by decide +kernel), if_neg (by decide +kernel), if_neg (by decide +kernel), if_pos rfl]
  rw [if_neg (fun q => hx q.2), if_neg (by rw [e, hk]; decide)]
theorem Rn.partEat (h : Rn t r ("NUMPART" :: st) l) (hx : S l.tx ≠ ("(" : Str)) (hk : (l.kd == .name || l.kd == .numeral) = true) : Rn t r st (nx t l) ∧ (l.kd = .numeral → l.tx.length ≤ 600) := by
  have es : step t ("NUMPART" :: st) l = .go st (nx t l) := by
    show step1 t "NUMPART" st l = _
    unfold step1
    rw [show rowsOf "NUMPART" = none by decide +kernel]
    dsimp only
    have e : fitsB l "NUMPART" = (l.kd == .name || l.kd == .numeral) := by
      unfold fitsB
      rw [if_neg (by decide +kernel), if_neg (by decide +kernel), if_neg (by decide +kernel), if_pos rfl]
    rw [if_neg (fun q => hx q.2), if_pos (by rw [e, hk])]
  refine ⟨h.go es, fun hq => ?_⟩
  have z := h.short es
  unfold long at z
  dsimp only at z
  rw [hq] at z
  simp at z
  exact z
end

/-! ### the walk ends -/
def wtab : List (Str × Nat) := [("DESIGN", 17), ("MODULES", 1), ("MODULE", 7), ("SIZENAMES", 1), ("MORENAMES", 1), ("SIZES", 1), ("MORENUMS", 1), ("ITEMS", 1), ("ITEM", 13), ("ELSE", 1), ("NAMED", 11), ("PORTS", 1), ("MOREPORTS", 1), ("PORT", 11), ("NUM", 3), ("NUMTAIL", 1), ("E", 8), ("TAIL", 1), ("PART", 6), ("CUTS", 1), ("ATOM", 4), ("AT", 1), ("BEHIND", 1), ("EWHOLE", 10), ("NUMWHOLE", 5)]
def htab : List (Str × Nat) := [("DESIGN", 1), ("MODULES", 9), ("MODULE", 1), ("SIZENAMES", 9), ("MORENAMES", 9), ("SIZES", 9), ("MORENUMS", 9), ("ITEMS", 9), ("ITEM", 1), ("ELSE", 9), ("NAMED", 1), ("PORTS", 9), ("MOREPORTS", 9), ("PORT", 1), ("NUM", 2), ("NUMTAIL", 9), ("E", 3), ("TAIL", 9), ("PART", 2), ("CUTS", 9), ("ATOM", 1), ("AT", 9), ("BEHIND", 9), ("EWHOLE", 4), ("NUMWHOLE", 3), ("END", 9), ("NUMPART", 1)]
def wt (s : Str) : Nat := (wtab.lookup s).getD 1
def hh (s : Str) : Nat := (htab.lookup s).getD 0
def wts (st : List Str) : Nat := (st.map wt).sum
def hd1 (st : List Str) : Nat := match st with
  | [] => 0
  | s :: _ => hh s
theorem wts_app (a b : List Str) : wts (a ++ b) = wts a + wts b := by simp [wts]
theorem wts_cons (a : Str) (b : List Str) : wts (a :: b) = wt a + wts b := by simp [wts]
/-- a row's look: an empty one stands at the greatest height alone, another one begins lower and pays for what it puts -/
def rowOk (A : Str) (b : List Str) : Bool := match b with
  | [] => decide (hh A = 9) && decide (0 < wt A)
  | s :: _ => decide (hh s < hh A) && decide (wts b + hh s * 28 < wt A + hh A * 28)
theorem tab_ok : (tab.all fun p => p.2.all fun r => rowOk p.1 r.2) = true := by decide +kernel
theorem tab_last : (tab.all fun p => (p.2.getLast?.map (·.1)) == some none) = true := by decide +kernel
theorem htab_le : (htab.all fun p => decide (p.2 ≤ 9)) = true := by decide +kernel
theorem lookup_mem {α β : Type} [BEq α] [LawfulBEq α] {l : List (α × β)} {a : α} {b : β} (h : l.lookup a = some b) : (a, b) ∈ l := by
  induction l with
  | nil => cases h
  | cons p l ih =>
    obtain ⟨x, y⟩ := p
    rw [List.lookup_cons] at h
    cases q : (a == x) with
    | true =>
      rw [q] at h
      cases h
      rw [eq_of_beq q]
      exact List.mem_cons_self
    | false =>
      rw [q] at h
      exact List.mem_cons_of_mem _ (ih h)
theorem hh_le (s : Str) : hh s ≤ 9 := by
  unfold hh
  cases h : htab.lookup s with
  | none => exact Nat.zero_le _
  | some v => exact of_decide_eq_true (List.all_eq_true.mp htab_le _ (lookup_mem h))
theorem hd1_le (st : List Str) : hd1 st ≤ 9 := by
  cases st with
  | nil => exact Nat.zero_le _
  | cons s r => exact hh_le s
theorem row_mem {rows : List Row} {x : Str} {A : Str} (h : rowsOf A = some rows) : ∃ r ∈ rows, pickRow rows x = r.2 ∧ rowFits x r = true := by
  have hm := lookup_mem h
  have hl := List.all_eq_true.mp tab_last _ hm
  simp only [beq_iff_eq] at hl
  cases q : rows.getLast? with
  | none => rw [q] at hl; cases hl
  | some r =>
    rw [q] at hl
    have hr : r.1 = none := by simpa using hl
    have hin : r ∈ rows := List.mem_of_getLast? q
    cases f : rows.find? (rowFits x) with
    | none =>
      have z := List.find?_eq_none.mp f r hin
      exact absurd (by unfold rowFits; rw [hr]) z
    | some r' =>
      exact ⟨r', List.mem_of_find?_eq_some f, by unfold pickRow; rw [f], List.find?_some f⟩
theorem pick_ok {rows : List Row} {x : Str} {A : Str} (h : rowsOf A = some rows) : rowOk A (pickRow rows x) = true := by
  obtain ⟨r, hr, e, _⟩ := row_mem (x := x) h
  rw [e]
  exact List.all_eq_true.mp (List.all_eq_true.mp tab_ok _ (lookup_mem h)) r hr
theorem row_pays {A : Str} {b st : List Str} (h : rowOk A b = true) : wts (b ++ st) + hd1 (b ++ st) * 28 < wts (A :: st) + hd1 (A :: st) * 28 := by
  rw [wts_app, wts_cons]
  cases b with
  | nil =>
    unfold rowOk at h
    simp only [Bool.and_eq_true, decide_eq_true_eq] at h
    have z := hd1_le st
    show wts [] + wts st + hd1 st * 28 < wt A + wts st + hh A * 28
    have w0 : wts [] = 0 := rfl
    omega
  | cons s b =>
    unfold rowOk at h
    simp only [Bool.and_eq_true, decide_eq_true_eq] at h
    show wts (s :: b) + wts st + hh s * 28 < wt A + wts st + hh A * 28
    omega
def meas (t : List Nat) (st : List Str) (l : Lx) : Nat := rem t l * 300 + wts st + hd1 st * 28
theorem fits_real {l : Lx} {s : Str} (h : fitsB l s = true) (hs : s ≠ ("END" : Str)) (rl : real l.kd = !l.tx.isEmpty) : l.tx ≠ [] := by
  have key : real l.kd = true → l.tx ≠ [] := fun q z => by rw [q, z] at rl; cases rl
  unfold fitsB at h
  split at h
  · refine key ?_; rw [beq_iff_eq] at h; rw [h]; rfl
  split at h
  · refine key ?_; rw [beq_iff_eq] at h; rw [h]; rfl
  split at h
  · refine key ?_
    rw [Bool.or_eq_true] at h
    rcases h with h | h <;> (rw [beq_iff_eq] at h; rw [h]; rfl)
  split at h
  · intro z; rw [z] at h; cases h
  · refine key ?_
    rw [Bool.and_eq_true, Bool.or_eq_true] at h
    rcases h.1 with h | h <;> (rw [beq_iff_eq] at h; rw [h]; rfl)
theorem nx_le {t : List Nat} {l : Lx} (h : LxOk t l) : rem t (nx t l) ≤ rem t l := by
  have h1 := nx_ge h
  unfold rem
  omega
theorem step_less {t : List Nat} {st st' : List Str} {l l' : Lx} (hl : LxOk t l) (h : step t st l = .go st' l') : LxOk t l' ∧ meas t st' l' < meas t st l := by
  cases st with
  | nil => cases h
  | cons s st =>
    have h : step1 t s st l = .go st' l' := h
    unfold step1 at h
    split at h
    · rename_i rows hr
      injection h with q1 q2
      subst q1 q2
      refine ⟨hl, ?_⟩
      have z := row_pays (st := st) (pick_ok (x := S l.tx) hr)
      unfold meas
      omega
    · rename_i hr
      split at h
      · rename_i hc
        injection h with q1 q2
        subst q1 q2
        refine ⟨hl, ?_⟩
        have e1 : wts ("(" :: "NUM" :: ")" :: st) = 5 + wts st := by
          rw [wts_cons, wts_cons, wts_cons]
          have a : wt "(" = 1 := by decide +kernel
          have b : wt "NUM" = 3 := by decide +kernel
          have c : wt ")" = 1 := by decide +kernel
          omega
        have e2 : wts (s :: st) = 1 + wts st := by
          rw [wts_cons, hc.1]
          have a : wt "NUMPART" = 1 := by decide +kernel
          omega
        have e3 : hd1 ("(" :: "NUM" :: ")" :: st) = 0 := by show hh "(" = 0; decide +kernel
        have e4 : hd1 (s :: st) = 1 := by show hh s = 1; rw [hc.1]; decide +kernel
        unfold meas
        omega
      · split at h
        · rename_i hf
          injection h with q1 q2
          subst q1 q2
          refine ⟨nx_ok _ _, ?_⟩
          have z1 := hd1_le st
          by_cases hs : s = ("END" : Str)
          · have e4 : hd1 (s :: st) = 9 := by show hh s = 9; rw [hs]; decide +kernel
            have e2 : wts (s :: st) = 1 + wts st := by
              rw [wts_cons, hs]
              have a : wt "END" = 1 := by decide +kernel
              omega
            have z2 := nx_le hl
            unfold meas
            omega
          · have z2 := nx_lt hl (fits_real hf hs hl.rl)
            have e2 : wts (s :: st) = wt s + wts st := wts_cons _ _
            unfold meas
            omega
        · cases h
theorem out_ends {t : List Nat} : ∀ (n : Nat) (st : List Str) (l : Lx), LxOk t l → meas t st l < n → ∃ r, out t n st l = some r
  | 0, _, _, _, h => absurd h (Nat.not_lt_zero _)
  | n + 1, st, l, hl, h => by
    unfold out
    cases e : step t st l with
    | fin => exact ⟨_, rfl⟩
    | fail p => exact ⟨_, rfl⟩
    | go st' l' =>
      obtain ⟨h1, h2⟩ := step_less hl e
      obtain ⟨r, hr⟩ := out_ends n st' l' h1 (by omega)
      dsimp only
      rw [hr]
      exact ⟨_, rfl⟩
end K04
end

section
set_option Elab.async false
set_option maxRecDepth 100000
set_option maxHeartbeats 4000000
/-! K2: the text by places, and rules of our own: a list against the empty list, not in a range, written dicts by text keys. -/
namespace K04
open PySem L2 PyProof.Rows
def topS (i : Nat) : Stmt := PySem.Challenge.pw_bitloom_k04_whole_wrong_places.main.body.getD i (.Pass ⟨0, 0, 0, 0⟩)
/-- a def of the top: where it stands, and that it is the text's -/
structure Df (K : PySem.W.Frag) (mg : Str → Option Value) (x : Str) (st : Stmt) (ps : List Str) where
  f : Addr
  fd : FuncData
  F : Fun K x x st f fd
  b : Binds K fd ps []
  g : mg x = some (.ref f)
/-- a method -/
structure Md (K : PySem.W.Frag) (C : Addr) (m qual : Str) (st : Stmt) (ps : List Str) where
  f : Addr
  fd : FuncData
  F : Fun K m qual st f fd
  b : Binds K fd ps []
  mt : Meth K C m f

/-! ### a list against [] -/
section
variable {X : Cx}
def rNil (K : PySem.W.Frag) (k : Bool) : R2 := fun x y H Q => ∃ a b xs, x = .ref a ∧ y = .ref b ∧ SqL K H a xs ∧ SqL K H b [] ∧ Q (.bl (if k = true then !xs.isEmpty else xs.isEmpty)) H
theorem nil_size {xs : List V} {its : List Value} (r : Vals xs its) (h : xs ≠ []) : (its.toArray.size != (([] : List Value).toArray).size) = true := by
  cases r with
  | nil => exact absurd rfl h
  | cons r t => simp
theorem op_eqNil (hu : X.A.units < cLine) : OpR X (compareOp .Eq) (rNil X.K false) := by
  intro pins s σ H x y v u Q I rx ry h
  obtain ⟨a, b, xs, rfl, rfl, ha, hb, q⟩ := h
  cases rx
  cases ry
  obtain ⟨its, r, pa, _⟩ := I.list ha
  obtain ⟨its2, r2, pb, _⟩ := I.list hb
  cases r2
  by_cases e : xs = []
  · subst e
    cases r
    refine SeqAt.eq_listAt (e := fun _ => true) pa.isList pb.isList rfl hu (fun j h1 _ => ?_) ⟨.bl _, H, I, rfl, q⟩
    exact absurd h1 (by simp)
  · refine SeqAt.eq_list_lengthsAt pa.isList pb.isList (nil_size r e) hu ⟨.bl false, H, I, rfl, ?_⟩
    have z : xs.isEmpty = false := by cases xs with | nil => exact absurd rfl e | cons _ _ => rfl
    rw [z] at q
    exact q
theorem op_neNil (hu : X.A.units < cLine) : OpR X (compareOp .NotEq) (rNil X.K true) := by
  intro pins s σ H x y v u Q I rx ry h
  obtain ⟨a, b, xs, rfl, rfl, ha, hb, q⟩ := h
  cases rx
  cases ry
  obtain ⟨its, r, pa, _⟩ := I.list ha
  obtain ⟨its2, r2, pb, _⟩ := I.list hb
  cases r2
  by_cases e : xs = []
  · subst e
    cases r
    refine SeqAt.RcNeAt.lists (e := fun _ => true) pa.isList pb.isList rfl hu (fun j h1 _ => ?_) _ _ _ _ ⟨.bl _, H, I, rfl, q⟩
    exact absurd h1 (by simp)
  · refine SeqAt.RcNeAt.lists_lengths pa.isList pb.isList (nil_size r e) hu _ _ _ _ ⟨.bl true, H, I, rfl, ?_⟩
    have z : xs.isEmpty = false := by cases xs with | nil => exact absurd rfl e | cons _ _ => rfl
    rw [z] at q
    exact q

/-! ### not in a range -/
theorem op_notin_rng : OpR X (compareOp .NotIn) (fun x y H Q => ∃ i a lo hi, x = V.int i ∧ y = V.ref a ∧ H a = some (.rng lo hi) ∧ Q (.bl (!decide (lo ≤ i ∧ i < hi))) H) := by
  intro pins s σ H x y v u Q I rx ry h
  obtain ⟨i, a, lo, hi, rfl, rfl, ha, q⟩ := h
  obtain ⟨k, rfl⟩ := rx
  obtain rfl : u = Value.ref a := ry
  obtain ⟨t1, t2, t3, ho⟩ := I.hok a _ ha
  show wpAny _ _ (do return Value.bool (!(← contains (Value.ref a) (Value.int i k)))) _ _ s
  have S0 := F.slot_range_contains
  refine wpAny_bind (wpAny_contains_slot (T := "range") ⟨_, ho, rfl⟩ S0 (call_meets S0 ⟨_, ho, rfl⟩ F.entry_range_contains (F.args_range_contains_2 _ _) (q_contains a lo hi i t1 t2 t3 k)
    ⟨ho, wpAny_truthy_bool ?_⟩))
  refine wpAny_pure ⟨.bl _, H, I, rfl, ?_⟩
  rw [place1]
  exact q

/-! ### written dicts by text keys -/
structure KTab (K : PySem.W.Frag) (w : World) (a : Addr) (tab : List (Str × V)) : Prop where
  ex : ∃ es n, K.lookup a = some ⟨.type "dict", none, .dict es n, #[]⟩ ∧ PySem.W.KeysLit w.params es.toList ∧ Paired (fun (e : DictEntry) (p : Str × V) => (∃ t, e.key = .str p.1 t) ∧ RelV p.2 e.val) es.toList tab
  low : (a == sysModules) = false
theorem find_tab {z : Str} : ∀ {l : List DictEntry} {tab : List (Str × V)}, Paired (fun (e : DictEntry) (p : Str × V) => (∃ t, e.key = .str p.1 t) ∧ RelV p.2 e.val) l tab →
    match tab.lookup z with
    | some v => ∃ e, l.find? (·.key.isStr z) = some e ∧ RelV v e.val
    | none => l.find? (·.key.isStr z) = none ∧ l.any (·.refKey) = false
  | _, _, .nil => ⟨rfl, rfl⟩
  | e :: l, (x, v) :: tab, .cons ⟨⟨t, hk⟩, rv⟩ r => by
    have ih := find_tab (z := z) r
    rw [List.lookup_cons, List.find?_cons]
    have ek : e.key.isStr z = (x == z) := by rw [hk]; rfl
    have er : e.refKey = false := by unfold DictEntry.refKey; rw [hk]
    rw [ek]
    by_cases c : z = x
    · subst c
      rw [beq_self_eq_true]
      exact ⟨e, rfl, rv⟩
    · have c1 : (z == x) = false := beq_eq_false_iff_ne.mpr c
      have c2 : (x == z) = false := beq_eq_false_iff_ne.mpr (Ne.symm c)
      rw [c1, c2]
      dsimp only
      cases q : tab.lookup z with
      | some v' =>
        rw [q] at ih
        exact ih
      | none =>
        rw [q] at ih
        exact ⟨ih.1, by rw [List.any_cons, er, ih.2] <;> rfl⟩
theorem KTab.there {K : PySem.W.Frag} {w : World} {a : Addr} {tab : List (Str × V)} (T : KTab K w a tab) {z : Str} {v : V} (h : tab.lookup z = some v) : KDct K w a z v := by
  obtain ⟨es, n, hl, hk, r⟩ := T.ex
  have q := find_tab (z := z) r
  rw [h] at q
  obtain ⟨e, he, rv⟩ := q
  refine ⟨es, n, e.val, hl, hk, ?_, rv⟩
  unfold PySem.W.nsIn
  rw [hl]
  dsimp only
  rw [he]
theorem KTab.not {K : PySem.W.Frag} {w : World} {a : Addr} {tab : List (Str × V)} (T : KTab K w a tab) {z : Str} (h : tab.lookup z = none) : PySem.W.nsIn K a z = some none := by
  obtain ⟨es, n, hl, hk, r⟩ := T.ex
  have q := find_tab (z := z) r
  rw [h] at q
  unfold PySem.W.nsIn
  rw [hl]
  dsimp only
  rw [q.1]
  dsimp only
  rw [if_neg (by rw [q.2]; decide)]
def tKGet (K : PySem.W.Frag) (w : World) (td ty tx : TE) : TE := fun σ H Q => td σ H fun x H1 => ∃ a tab, x = .ref a ∧ KTab K w a tab ∧ ty σ H1 fun y H2 => ∃ z, y = .str z ∧ tx σ H2 fun d H3 => Q ((tab.lookup z).getD d) H3
theorem pe_kget {o e f : Expr} {apos cpos : Pos} {td ty tx : TE} (ho : PE X o td) (he : PE X e ty) (hf : PE X f tx) (m : M2 X o "get" apos e f cpos) : PE X (.Call (.Attribute o "get" apos) [e, f] [] cpos) (tKGet X.K X.w td ty tx) := by
  refine ⟨fun pins s σ H Q I h => ?_⟩
  refine wpAny_Call_method m.base m.few m.line PySem.F.plainAttrs_dict PySem.F.slot_dict_get PySem.F.type_dict_get (thn (ho.run pins s σ H _ I h) fun u s1 ⟨x, H1, I1, rx, a, tab, ex, T, q1⟩ => ?_)
  subst ex
  cases rx
  obtain ⟨es, n, hl, hk, r⟩ := T.ex
  have hd := I1.kIn _ _ hl
  refine ⟨⟨_, hd, rfl⟩, fun b q => ?_, ?_⟩
  · cases q
    exact ⟨_, hd, rfl⟩
  rw [m.trees]
  refine Calls.callWith_builtin rfl (Calls.evalArgs_plain (Calls.spliced_cons (thn (he.run pins s1 σ H1 _ I1 q1) fun iv s2 ⟨y, H2, I2, ry, z, ey, q2⟩ =>
    Calls.spliced_cons (thn (hf.run pins s2 σ H2 _ I2 q2) fun fv s3 ⟨d, H3, I3, rd, q3⟩ => Calls.spliced_nil ?_))))
  subst ey
  obtain ⟨tk, rfl⟩ := ry
  have hm := PySem.W.mapOf_K (prog := X.prog) (w := X.w) I3.kIn hl hk
  refine call_meetsIn PySem.F.slot_dict_get hm.typeIs PySem.F.entry_dict_get (PySem.F.args_dict_get_3 _ _ _) (meets_dict_get_default (strKind X.prog X.w) a (strKind_is X.prog X.w z tk) T.low fv) ⟨_, hm, _, H3, I3.tok _, ?_, q3⟩
  cases c : tab.lookup z with
  | some v =>
    obtain ⟨es', n', u, hl', _, e', ru⟩ := T.there c
    rw [PySem.W.find_K hl (by exact e')]
    exact ru
  | none =>
    rw [PySem.W.find_K hl (T.not c)]
    exact rd
end
end K04
end

section
set_option Elab.async false
set_option maxRecDepth 100000
set_option maxHeartbeats 4000000
/-! K3: run_end, gap_end, is_spelt, lexeme_at: each by its walk. -/
namespace K04
open PySem L2 PyProof.Rows
/-! ### texts in plain Lean -/
/-- the place behind a run -/
def runEnd (t : List Nat) (p : Nat) (z : Str) : Nat := p + ((t.drop p).takeWhile (inS z)).length
theorem S_fits {t : List Nat} (h : t.length ≤ 1000000) : (S t).length ≤ sizeLine := by
  rw [S_len]
  exact Nat.le_trans h (by decide)
theorem runEnd_end {t : List Nat} {p : Nat} {z : Str} (h : t.length ≤ p) : runEnd t p z = p := by
  unfold runEnd
  rw [List.drop_eq_nil_of_le h]
  rfl
theorem runEnd_yes {t : List Nat} {p : Nat} {z : Str} {c : Nat} (h : t[p]? = some c) (hc : inS z c = true) : runEnd t p z = runEnd t (p + 1) z := by
  obtain ⟨h1, e1⟩ := List.getElem?_eq_some_iff.mp h
  unfold runEnd
  rw [List.drop_eq_getElem_cons h1, e1, List.takeWhile_cons, if_pos hc, List.length_cons]
  omega
theorem runEnd_no {t : List Nat} {p : Nat} {z : Str} {c : Nat} (h : t[p]? = some c) (hc : inS z c = false) : runEnd t p z = p := by
  obtain ⟨h1, e1⟩ := List.getElem?_eq_some_iff.mp h
  unfold runEnd
  rw [List.drop_eq_getElem_cons h1, e1, List.takeWhile_cons, if_neg (by rw [hc]; decide)]
  rfl
theorem drop_while (f : Nat → Bool) : ∀ u : List Nat, u.drop (u.takeWhile f).length = u.dropWhile f
  | [] => rfl
  | a :: r => by
    rw [List.takeWhile_cons, List.dropWhile_cons]
    split
    · exact drop_while f r
    · rfl
theorem runEnd_drop (t : List Nat) (p : Nat) (z : Str) : t.drop (runEnd t p z) = (t.drop p).dropWhile (inS z) := by
  unfold runEnd
  rw [← List.drop_drop, drop_while]
theorem runEnd_le {t : List Nat} {p : Nat} (z : Str) (h : p ≤ t.length) : runEnd t p z ≤ t.length := by
  have h1 := takeWhile_len (inS z) (t.drop p)
  rw [List.length_drop] at h1
  unfold runEnd
  omega
theorem runEnd_ge (t : List Nat) (p : Nat) (z : Str) : p ≤ runEnd t p z := Nat.le_add_right _ _
/-- a cut of a text -/
theorem cutS_nat {t : List Nat} {p q : Nat} : cutS (S t) (some (p : Int)) (some (q : Int)) = S ((t.drop p).take (q - p)) := by
  unfold cutS
  rw [HT.sIx_nat, HT.sIx_nat, S_codes, S_len]
  unfold S
  congr 2
  by_cases h : p ≤ t.length
  · rw [Nat.min_eq_left h]
    by_cases h2 : q ≤ t.length
    · rw [Nat.min_eq_left h2]
    · rw [Nat.min_eq_right (by omega)]
      rw [List.take_of_length_le (by rw [List.length_drop]; omega), List.take_of_length_le (by rw [List.length_drop]; omega)]
  · have e1 : min p t.length = t.length := by omega
    rw [e1, List.drop_eq_nil_of_le (Nat.le_refl _), List.drop_eq_nil_of_le (by omega), List.take_nil, List.take_nil]
theorem take_run (t : List Nat) (p : Nat) (z : Str) : (t.drop p).take (runEnd t p z - p) = (t.drop p).takeWhile (inS z) := by
  have e : runEnd t p z - p = ((t.drop p).takeWhile (inS z)).length := by unfold runEnd; omega
  rw [e]
  have key : ∀ u : List Nat, u.take (u.takeWhile (inS z)).length = u.takeWhile (inS z) := by
    intro u
    induction u with
    | nil => rfl
    | cons a r ih =>
      rw [List.takeWhile_cons]
      split
      · show a :: r.take (r.takeWhile (inS z)).length = _
        rw [ih]
      · rfl
  exact key _
/-! ### find of one sign -/
section
open Builtin Builtin.Str StrLaws
theorem occ_stay (s sub : Str) (hi : Nat) : ∀ (l : List Nat) (st : Array Nat × Nat), 1 ≤ st.fst.size → (forIn l st (occBody s sub hi 1)).run.fst = st.fst
  | [], st, h => rfl
  | a :: l, st, h => by
    rw [List.forIn_cons]
    unfold occBody
    rw [if_neg (fun q => by have := q.1.1.1; omega)]
    exact occ_stay s sub hi l st h
theorem occ_look (x : Str) (c : Nat) : ∀ (l : List Nat) (free : Nat), (∀ i ∈ l, free ≤ i) →
    (forIn l ((#[] : Array Nat), free) (occBody x ⟨#[c]⟩ x.length 1)).run.fst = (match l.find? (fun i => x.cps.toList[i]? == some c) with | some i => #[i] | none => #[])
  | [], _, _ => rfl
  | a :: l, free, hf => by
    rw [List.forIn_cons, List.find?_cons]
    unfold occBody
    by_cases e : x.cps.toList[a]? = some c
    · have q := (subAt_one x c a).mpr e
      rw [if_pos ⟨⟨⟨by simp, hf a (List.mem_cons_self ..)⟩, q.1⟩, q.2⟩]
      rw [show (x.cps.toList[a]? == some c) = true from beq_iff_eq.mpr e]
      exact occ_stay _ _ _ l _ (by simp)
    · rw [if_neg (fun q => e ((subAt_one x c a).mp ⟨q.1.2, q.2⟩))]
      rw [show (x.cps.toList[a]? == some c) = false from beq_eq_false_iff_ne.mpr e]
      exact occ_look x c l free fun i hi => hf i (List.mem_cons_of_mem _ hi)
/-- the first c from p on: what is dropped up to it -/
theorem look_drop (t : List Nat) (c : Nat) : ∀ (n p : Nat), p + n = t.length + 1 →
    match (List.range' p n).find? (fun i => t[i]? == some c) with
    | some k => p ≤ k ∧ k < t.length ∧ t.drop k = (t.drop p).dropWhile (fun d => decide (d ≠ c))
    | none => (t.drop p).dropWhile (fun d => decide (d ≠ c)) = []
  | 0, p, h => by
    have e : t.drop p = [] := List.drop_eq_nil_of_le (by omega)
    show (t.drop p).dropWhile _ = []
    rw [e]
    rfl
  | n + 1, p, h => by
    rw [List.range'_succ, List.find?_cons]
    by_cases hp : p < t.length
    · have ed := List.drop_eq_getElem_cons hp
      by_cases e : t[p] = c
      · rw [show (t[p]? == some c) = true by rw [List.getElem?_eq_getElem hp, e]; exact beq_self_eq_true _]
        refine ⟨Nat.le_refl _, hp, ?_⟩
        rw [ed, List.dropWhile_cons, if_neg (by rw [e]; simp)]
      · rw [show (t[p]? == some c) = false by rw [List.getElem?_eq_getElem hp]; exact beq_eq_false_iff_ne.mpr (fun q => e (Option.some.inj q))]
        have ih := look_drop t c n (p + 1) (by omega)
        have ew : (t.drop p).dropWhile (fun d => decide (d ≠ c)) = (t.drop (p + 1)).dropWhile (fun d => decide (d ≠ c)) := by
          rw [ed, List.dropWhile_cons, if_pos (by simpa using e)]
        rw [ew]
        dsimp only
        cases q : (List.range' (p + 1) n).find? (fun i => t[i]? == some c) with
        | some k =>
          rw [q] at ih
          exact ⟨by omega, ih.2⟩
        | none =>
          rw [q] at ih
          exact ih
    · have e : t.drop p = [] := List.drop_eq_nil_of_le (by omega)
      have e2 : t[p]? = none := List.getElem?_eq_none (by omega)
      rw [show (t[p]? == some c) = false by rw [e2]; rfl]
      have ih := look_drop t c n (p + 1) (by omega)
      have e3 : t.drop (p + 1) = [] := List.drop_eq_nil_of_le (by omega)
      rw [e3] at ih
      rw [e]
      dsimp only
      cases q : (List.range' (p + 1) n).find? (fun i => t[i]? == some c) with
      | some k =>
        rw [q] at ih
        have := ih.1
        have := ih.2.1
        omega
      | none => rfl
/-- text.find(c, p) -/
theorem find3_is {t : List Nat} {p c : Nat} (hp : p ≤ t.length) :
    (∃ k : Nat, Txt.find3 (S t) ⟨#[c]⟩ (p : Int) = (k : Int) ∧ p ≤ k ∧ k < t.length ∧ t.drop k = (t.drop p).dropWhile (fun d => decide (d ≠ c))) ∨
    (Txt.find3 (S t) ⟨#[c]⟩ (p : Int) = -1 ∧ (t.drop p).dropWhile (fun d => decide (d ≠ c)) = []) := by
  have e0 : fromIndex (S t).length (p : Int) = p := by
    unfold fromIndex
    rw [if_neg (by omega)]
    omega
  have e1 := occ_look (S t) c (List.range' p ((S t).length + 1 - p)) p (fun i hi => by
    rw [List.mem_range'_1] at hi
    exact hi.1)
  have e2 := look_drop t c ((S t).length + 1 - p) p (by rw [S_len]; omega)
  rw [S_codes] at e1
  unfold Txt.find3
  rw [e0, occ_eq, e1]
  cases q : (List.range' p ((S t).length + 1 - p)).find? (fun i => t[i]? == some c) with
  | some k =>
    rw [q] at e2
    exact .inl ⟨k, rfl, e2.1, e2.2.1, e2.2.2⟩
  | none =>
    rw [q] at e2
    exact .inr ⟨rfl, e2⟩
end
/-! ### gaps -/
theorem gapF_more : ∀ (n m : Nat) (u : List Nat), u.length < n → u.length < m → gapF n u = gapF m u
  | 0, _, _, h, _ => absurd h (Nat.not_lt_zero _)
  | _, 0, _, _, h => absurd h (Nat.not_lt_zero _)
  | n + 1, m + 1, u, h1, h2 => by
    unfold gapF
    dsimp only
    split
    · rename_i c
      have l1 : (u.dropWhile (inS BL)).length ≤ u.length := dropWhile_len _ _
      have l2 : ((u.dropWhile (inS BL)).dropWhile fun c => decide (c ≠ 10)).length < (u.dropWhile (inS BL)).length := by
        cases q : u.dropWhile (inS BL) with
        | nil => rw [q] at c; cases c
        | cons a r =>
          rw [q] at c
          have ea : a = 47 := by
            cases r with
            | nil => cases c
            | cons b r => simp only [List.take_succ_cons] at c; injection c
          rw [List.dropWhile_cons, if_pos (by rw [ea]; decide)]
          exact Nat.lt_succ_of_le (dropWhile_len _ _)
      exact gapF_more n m _ (by omega) (by omega)
    · rfl
/-- one turn of the gap -/
def slash2 (v : List Nat) : Prop := v.take 2 = [47, 47]
theorem gapG (u : List Nat) : gapF (u.length + 1) u = (if (u.dropWhile (inS BL)).take 2 = [47, 47] then gapF (((u.dropWhile (inS BL)).dropWhile fun c => decide (c ≠ 10)).length + 1) ((u.dropWhile (inS BL)).dropWhile fun c => decide (c ≠ 10)) else u.dropWhile (inS BL)) := by
  rw [gapF]
  split
  · rename_i c
    have l1 : (u.dropWhile (inS BL)).length ≤ u.length := dropWhile_len _ _
    have l2 : ((u.dropWhile (inS BL)).dropWhile fun c => decide (c ≠ 10)).length < (u.dropWhile (inS BL)).length := by
      cases q : u.dropWhile (inS BL) with
      | nil => rw [q] at c; cases c
      | cons a r =>
        rw [q] at c
        have ea : a = 47 := by
          cases r with
          | nil => cases c
          | cons b r => simp only [List.take_succ_cons] at c; injection c
        rw [List.dropWhile_cons, if_pos (by rw [ea]; decide)]
        exact Nat.lt_succ_of_le (dropWhile_len _ _)
    exact gapF_more _ _ _ (by omega) (by omega)
  · rfl
theorem gapA_is (t : List Nat) (p : Nat) : gapA t p = gapF ((t.drop p).length + 1) (t.drop p) := by
  unfold gapA
  exact gapF_more _ _ _ (by rw [List.length_drop]; omega) (by omega)
/-- with p behind its blanks: the gap goes on, or ends here -/
theorem gapA_end {t : List Nat} {p : Nat} (h : (t.drop (runEnd t p BL)).take 2 ≠ [47, 47]) : gapA t p = t.drop (runEnd t p BL) := by
  rw [gapA_is, gapG, ← runEnd_drop, if_neg h]
theorem gapA_more {t : List Nat} {p q : Nat} (h : (t.drop (runEnd t p BL)).take 2 = [47, 47]) (hq : t.drop q = (t.drop (runEnd t p BL)).dropWhile fun c => decide (c ≠ 10)) : gapA t p = gapA t q := by
  rw [gapA_is, gapG, ← runEnd_drop, if_pos h, gapA_is, hq]
theorem slash_lt {t : List Nat} {p q : Nat} (h : (t.drop p).take 2 = [47, 47]) (hq : t.drop q = (t.drop p).dropWhile fun c => decide (c ≠ 10)) (hl : q ≤ t.length) : p < q := by
  have hp : p < t.length := by
    refine Classical.byContradiction fun n => ?_
    rw [List.drop_eq_nil_of_le (by omega)] at h
    cases h
  have e := List.drop_eq_getElem_cons hp
  have ea : t[p] = 47 := by
    rw [e] at h
    cases q2 : t.drop (p + 1) with
    | nil => rw [q2] at h; exact absurd (congrArg List.length h) (by simp)
    | cons b r => rw [q2] at h; exact (List.cons.inj h).1
  rw [e, List.dropWhile_cons, if_pos (by rw [ea]; decide)] at hq
  have l1 := dropWhile_len (fun c => decide (c ≠ 10)) (t.drop (p + 1))
  rw [← hq, List.length_drop, List.length_drop] at l1
  omega
/-! ### promises -/
def spRunEnd : Sp := fun vs H Q _ => ∃ (t : List Nat) (p : Nat) (z : Str), vs = [.str (S t), .int p, .str z] ∧ t.length ≤ 1000000 ∧ p ≤ t.length ∧ Q (.int (runEnd t p z)) H
def spGapEnd : Sp := fun vs H Q _ => ∃ (t : List Nat) (p : Nat), vs = [.str (S t), .int p] ∧ t.length ≤ 1000000 ∧ p ≤ t.length ∧ ∀ q : Nat, q ≤ t.length → t.drop q = gapA t p → Q (.int q) H
section
variable {P : Program} {w : World} {K : PySem.W.Frag} {mg : Str → Option Value} {base : Heap}
abbrev sRunEnd : Stmt := topS 13
theorem scRunEnd : FnScope ["text", "place", "signs"] ["text", "place", "signs"] (defScope sRunEnd) := ⟨rfl, rfl, rfl, by decide +kernel, rfl, by decide +kernel, by decide +kernel⟩
theorem ok_runEnd (ml : mg "len" = none) (D : Df K mg "run_end" sRunEnd ["text", "place", "signs"]) : FnOk P w K mg base CX0 1 D.f D.fd ["text", "place", "signs"] spRunEnd := by
  refine D.F.ok scRunEnd (fun vs H Q E h => ?_) (fun cdv A outer s H vs Q E hr h => ?_)
  · obtain ⟨t, p, z, rfl, _⟩ := h
    rfl
  obtain ⟨t, p, z, rfl, hl, hp, q⟩ := h
  have nd := scRunEnd.nd
  refine ⟨_, pss_cons (ps_while PassesOwn.never (PW.pt (pw_and (pt_cmpR op_lt (pv 1) (pe_callB call_len_str (by rfl) ml PySem.boot_len (pa_cons (pv 0) pa_nil)) (nomark _))
      (pw_and1 (pt_cmpR op_in_sign (pe_ix ix_str (pv 0) (pv 1) (fun _ _ => rfl)) (pv 2) rfl)))) (pss_one (ps_aug (i := 1) nd rfl (.inl rfl) pe_int ip_add)))
    (pss_one (ps_ret (pv 1))), ?_⟩
  refine ⟨fun m σ H' => ∃ p' : Nat, σ = [some (.str (S t)), some (.int p'), some (.str z)] ∧ H' = H ∧ p' + m = t.length ∧ runEnd t p' z = runEnd t p z, ⟨t.length - p, p, rfl, rfl, by omega, rfl⟩, ?_⟩
  rintro m σ H' ⟨p', rfl, rfl, hm, he⟩
  refine ⟨_, rfl, _, rfl, _, rfl, S_fits hl, _, _, rfl, rfl, _, rfl, ?_⟩
  rw [S_len]
  refine ite2 (fun c => ?_) (fun c => ?_)
  · have c' : p' < t.length := by have := of_decide_eq_true c; omega
    have hc : t[p']? = some t[p'] := List.getElem?_eq_getElem c'
    refine ⟨_, rfl, _, rfl, _, _, t[p'], rfl, rfl, S_fits hl, atI_nat (by rw [S_codes]; exact hc), _, rfl, t[p'], _, rfl, rfl, _, rfl, ?_⟩
    refine ite2 (fun c => ?_) (fun c => ?_)
    · refine ⟨fun σ' H'' => ∃ m', m' < m ∧ ∃ p' : Nat, σ' = [some (.str (S t)), some (.int p'), some (.str z)] ∧ H'' = H' ∧ p' + m' = t.length ∧ runEnd t p' z = runEnd t p z, fun _ _ h => h, ?_⟩
      refine ⟨_, rfl, _, _, rfl, rfl, m - 1, by omega, p' + 1, rfl, rfl, by omega, ?_⟩
      rw [← he, runEnd_yes hc c]
    · refine ⟨_, rfl, ?_⟩
      rw [← runEnd_no hc (Bool.eq_false_iff.mpr c), he]
      exact q
  · have c' : t.length ≤ p' := by have := of_decide_eq_false (Bool.eq_false_iff.mpr c); omega
    refine iteF ⟨_, rfl, ?_⟩
    rw [← runEnd_end (z := z) c', he]
    exact q
abbrev sGapEnd : Stmt := topS 14
theorem scGapEnd : FnScope ["text", "place", "end"] ["text", "place"] (defScope sGapEnd) := ⟨rfl, rfl, rfl, by decide +kernel, rfl, by decide +kernel, by decide +kernel⟩
theorem S_slash : S [47, 47] = ("//" : Str) := by decide +kernel
theorem str_nl : ("\n" : Str) = ⟨#[10]⟩ := by decide +kernel
theorem ok_gapEnd {tb : Tok} (ml : mg "len" = none) (mB : mg "BLANKS" = some (.str BL tb)) (DR : Df K mg "run_end" sRunEnd ["text", "place", "signs"]) (D : Df K mg "gap_end" sGapEnd ["text", "place"]) : FnOk P w K mg base CX0 2 D.f D.fd ["text", "place"] spGapEnd := by
  have GR : FnOk P w K mg base CX0 1 DR.f DR.fd ["text", "place", "signs"] spRunEnd := ok_runEnd ml DR
  refine D.F.ok scGapEnd (fun vs H Q E h => ?_) (fun cdv A outer s H vs Q E hr h => ?_)
  · obtain ⟨t, p, rfl, _⟩ := h
    rfl
  obtain ⟨t, p, rfl, hl, hp, q⟩ := h
  have nd := scGapEnd.nd
  refine ⟨_, pss_cons (ps_set (i := 1) nd rfl (.inl rfl) (pe_call GR hr rfl DR.g DR.F.kp DR.b .nil pass0 (pa_cons (pv 0) (pa_cons (pv 1) (pa_cons (pe_glob (v := .str BL) rfl mB ⟨_, rfl⟩) pa_nil)))))
    (pss_cons (ps_while PassesOwn.never (pt_cmpR op_eq (pe_slice sl_str (pv 0) (po_some (pv 1)) (po_some (pe_op op_add (pv 1) pe_int))) pe_str (nomark _))
      (pss_cons (ps_set (i := 2) nd rfl (.inl rfl) (pe_bm PySem.F.plainAttrs_str PySem.F.slot_str_find PySem.F.type_str_find mt_find3 (pv 0) (pa_cons pe_str (pa_cons (pv 1) pa_nil))))
      (pss_one (ps_set (i := 1) nd rfl (.inl rfl) (pe_call GR hr rfl DR.g DR.F.kp DR.b .nil pass0 (pa_cons (pv 0) (pa_cons (pe_ifExp (pt_cmpR op_ge (pv 2) pe_int (nomark _)) (pv 2) (pe_callB call_len_str (by rfl) ml PySem.boot_len (pa_cons (pv 0) pa_nil))) (pa_cons (pe_glob (v := .str BL) rfl mB ⟨_, rfl⟩) pa_nil))))))))
    (pss_one (ps_ret (pv 1)))), ?_⟩
  refine ⟨_, rfl, _, rfl, t, p, BL, rfl, hl, hp, ?_⟩
  refine ⟨fun m σ H' => ∃ (p0 : Nat) (v : Option V), σ = [some (.str (S t)), some (.int (runEnd t p0 BL)), v] ∧ H' = H ∧ p0 ≤ t.length ∧ gapA t p0 = gapA t p ∧ runEnd t p0 BL + m = t.length,
    ⟨t.length - runEnd t p BL, p, none, rfl, rfl, hp, rfl, by have := runEnd_le BL hp; omega⟩, ?_⟩
  rintro m σ H' ⟨p0, v, rfl, rfl, h0, hg, hm⟩
  refine ⟨_, rfl, _, rfl, _, rfl, _, rfl, _, _, rfl, rfl, _, rfl, ?_⟩
  refine ⟨_, rfl, S_fits hl, rfl, _, rfl, ?_⟩
  have e2 : ((runEnd t p0 BL : Nat) : Int) + 2 = ((runEnd t p0 BL + 2 : Nat) : Int) := rfl
  rw [e2, cutS_nat, show runEnd t p0 BL + 2 - runEnd t p0 BL = 2 by omega]
  refine ite2 (fun c => ?_) (fun c => ?_)
  · have c1 : (t.drop (runEnd t p0 BL)).take 2 = [47, 47] := by
      have c2 := of_decide_eq_true c
      have c3 : S ((t.drop (runEnd t p0 BL)).take 2) = ("//" : Str) := V.str.inj c2
      exact S_inj (c3.trans S_slash.symm)
    have c4 := runEnd_le BL h0
    refine ⟨fun σ' H'' => ∃ m', m' < m ∧ ∃ (p0 : Nat) (v : Option V), σ' = [some (.str (S t)), some (.int (runEnd t p0 BL)), v] ∧ H'' = H' ∧ p0 ≤ t.length ∧ gapA t p0 = gapA t p ∧ runEnd t p0 BL + m' = t.length, fun _ _ h => h, ?_⟩
    refine ⟨_, rfl, rfl, _, rfl, S t, ("\n" : Str), (runEnd t p0 BL : Nat), rfl, rfl, ?_⟩
    rw [str_nl]
    have go : ∀ q : Nat, q ≤ t.length → t.drop q = (t.drop (runEnd t p0 BL)).dropWhile (fun d => decide (d ≠ 10)) →
        ∃ m', m' < m ∧ ∃ (p0 : Nat) (v : Option V), p0 ≤ t.length ∧ gapA t p0 = gapA t p ∧ runEnd t p0 BL + m' = t.length ∧ runEnd t q BL = runEnd t p0 BL := fun q hq e => by
      have l1 := slash_lt c1 e hq
      have l2 := runEnd_ge t q BL
      have l3 := runEnd_le BL hq
      refine ⟨t.length - runEnd t q BL, by omega, q, none, hq, ?_, by omega, rfl⟩
      rw [← gapA_more c1 e, hg]
    rcases find3_is (c := 10) c4 with ⟨k, e1, e2, e3, e4⟩ | ⟨e1, e4⟩
    · rw [e1]
      obtain ⟨m', g1, q0, _, g2, g3, g4, g5⟩ := go k (Nat.le_of_lt e3) e4
      refine ⟨_, rfl, _, rfl, _, _, rfl, rfl, _, rfl, ?_⟩
      rw [decide_eq_true (by omega : (0 : Int) ≤ (k : Int))]
      refine iteT ⟨_, rfl, t, k, BL, rfl, hl, Nat.le_of_lt e3, m', g1, q0, some (.int (k : Nat)), ?_, rfl, g2, g3, g4⟩
      rw [g5]
      rfl
    · rw [e1]
      obtain ⟨m', g1, q0, _, g2, g3, g4, g5⟩ := go t.length (Nat.le_refl _) (by rw [e4]; exact List.drop_length ..)
      refine ⟨_, rfl, _, rfl, _, _, rfl, rfl, _, rfl, ?_⟩
      refine iteF ⟨_, rfl, _, rfl, S_fits hl, ?_⟩
      rw [S_len]
      refine ⟨t, t.length, BL, rfl, hl, Nat.le_refl _, m', g1, q0, some (.int (-1)), ?_, rfl, g2, g3, g4⟩
      rw [g5]
      rfl
  · have c1 : (t.drop (runEnd t p0 BL)).take 2 ≠ [47, 47] := fun z => c (decide_eq_true (by rw [z, S_slash]))
    refine ⟨_, rfl, q _ (runEnd_le BL h0) ?_⟩
    rw [← gapA_end c1, hg]
end
end K04
end

section
set_option Elab.async false
set_option maxRecDepth 100000
set_option maxHeartbeats 4000000
/-! K4: is_spelt, lexeme_at. -/
namespace K04
open PySem L2 PyProof.Rows
theorem same_up {H : Hp} {p : Addr} (h : H p = none) (o : HO) : Same H (upd H p o) := fun b u q => by rw [upd_ne (ne_of_none q h)]; exact q
theorem take_succ_of {α : Type} {l : List α} {i : Nat} {x : α} (h : l[i]? = some x) : l.take (i + 1) = l.take i ++ [x] := by
  rw [List.take_add_one, h]
  rfl
/-- whether a text is spelt as a name or keyword -/
def speltB (l : List Nat) : Bool := match l with
  | [] => false
  | c :: r => decide ((c :: r).length < 17) && inS LET c && (c :: r).all (inS SGN)
theorem speltB_cons (c : Nat) (r : List Nat) : speltB (c :: r) = (decide ((c :: r).length < 17) && inS LET c && (c :: r).all (inS SGN)) := rfl
def spSpelt : Sp := fun vs H Q _ => ∃ l : List Nat, vs = [.str (S l)] ∧ l.length ≤ 1000000 ∧ ∀ H', Same H H' → Q (.bl (speltB l)) H'
section
variable {P : Program} {w : World} {K : PySem.W.Frag} {mg : Str → Option Value} {base : Heap}
abbrev sSpelt : Stmt := topS 8
theorem scSpelt : FnScope ["value", "sign"] ["value"] (defScope sSpelt) := ⟨rfl, rfl, rfl, by decide +kernel, rfl, by decide +kernel, by decide +kernel⟩
theorem ok_spelt {tl ts : Tok} (ml : mg "len" = none) (mr : mg "range" = none) (ma : mg "all" = none) (mL : mg "LETTERS" = some (.str LET tl)) (mS : mg "SIGNS" = some (.str SGN ts))
    (D : Df K mg "is_spelt" sSpelt ["value"]) : FnOk P w K mg base CX0 1 D.f D.fd ["value"] spSpelt := by
  refine D.F.ok scSpelt (fun vs H Q E h => ?_) (fun cdv A outer s H vs Q E hr h => ?_)
  · obtain ⟨l, rfl, _⟩ := h
    rfl
  obtain ⟨l, rfl, hl, q⟩ := h
  have nd := scSpelt.nd
  refine ⟨_, pss_cons (ps_if (PW.pt (pw_or (pt_cmpR op_notin_rng (pe_callB call_len_str (by rfl) ml PySem.boot_len (pa_cons (pv 0) pa_nil)) (pe_callTy cr_range2 (by rfl) mr (by decide +kernel) (pa_cons pe_int (pa_cons pe_int pa_nil))) rfl)
        (pw_or1 (pt_cmpR op_notIn_sign (pe_ix ix_str (pv 0) pe_int (fun _ _ => rfl)) (pe_glob (v := .str LET) rfl mL ⟨_, rfl⟩) rfl)))) (pss_one (ps_ret pe_bl)) pss_nil)
    (pss_one (ps_ret (pe_callB (cr_all rfl) (by rfl) ma (by decide +kernel) (pa_cons (pe_lc (own := [("sign", 1)]) rfl nd (pi_str (pv 0)) (blkOk_by (own := [("sign", 1)]) (N := ["value", "sign"]) (sc := defScope sSpelt) (by decide +kernel))
        (fun _ _ _ _ _ => pg_name (i := 1) nd rfl (Or.inl rfl)) (fun _ _ _ _ _ => pts_nil) (fun _ _ _ _ _ => pe_cmpR op_in_sign (pv 1) (pe_glob (v := .str SGN) rfl mS ⟨_, rfl⟩) rfl)) pa_nil)))), ?_⟩
  refine ⟨_, rfl, _, rfl, S_fits hl, _, _, rfl, fun p hp => ?_⟩
  refine ⟨_, p, 1, 17, rfl, rfl, upd_same, _, rfl, ?_⟩
  rw [S_len]
  have g1 : Same H (upd H p (.rng 1 17)) := same_up hp _
  cases l with
  | nil =>
    refine iteT (iteT ?_)
    exact q _ g1
  | cons c r =>
    by_cases c1 : (c :: r).length < 17
    · have d1 : (!decide ((1 : Int) ≤ (((c :: r).length : Nat) : Int) ∧ (((c :: r).length : Nat) : Int) < 17)) = false := by
        rw [decide_eq_true ⟨by simp only [List.length_cons]; omega, by omega⟩]
        rfl
      rw [d1]
      refine iteF ?_
      refine ⟨_, rfl, _, _, c, rfl, rfl, S_fits hl, atI_nat (j := 0) (by rw [S_codes]; rfl), c, _, rfl, rfl, _, rfl, ?_⟩
      show if (!decide (c ∈ LET.cps.toList)) = true then _ else _
      by_cases c2 : inS LET c = true
      · rw [show decide (c ∈ LET.cps.toList) = true from c2]
        refine iteF ?_
        refine ⟨_, rfl, _, rfl, fun Dl hD => ?_⟩
        refine lc_it walk_str (fun i H' => Same H H' ∧ H' Dl = some (.lst (((c :: r).take i).map fun d => V.bl (inS SGN d)))) ⟨g1.trans (same_up hD _), upd_same⟩ (fun _ _ _ _ => trivial) ?_ ?_
        · rintro i x H1 H2 hi ⟨h1, h2⟩ ⟨rfl, d, hd, rfl⟩
          have hd' : (c :: r)[i]? = some d := by
            rw [← S_codes (c :: r), Array.getElem?_toList]
            exact hd
          have hi' : i < (c :: r).length := (List.getElem?_eq_some_iff.mp hd').1
          refine ⟨rfl, ?_⟩
          refine iteT (B := Same H H2 ∧ H2 Dl = some (.lst (((c :: r).take (i + 1)).map fun d => V.bl (inS SGN d)))) ?_
          refine ⟨_, rfl, d, _, rfl, rfl, _, h2, ?_, fun b o e => ?_, ?_⟩
          · rw [List.length_map, List.length_take]
            exact small1000 (by omega)
          · have nb : b ≠ Dl := fun z => by
              have zz := hD
              rw [← z, g1 b o e] at zz
              cases zz
            rw [upd_ne nb]
            exact h1 b o e
          · rw [upd_same, take_succ_of hd', List.map_append]
            rfl
        · rintro H1 ⟨h1, h2⟩
          have es : (S (c :: r)).cps.size = (c :: r).length := S_len _
          rw [es, List.take_length] at h2
          refine ⟨Dl, (c :: r).map (inS SGN), rfl, SqL.of (by rw [h2, List.map_map]; rfl), ?_⟩
          have ev : (((c :: r).map (inS SGN)).all id) = speltB (c :: r) := by
            rw [speltB_cons, decide_eq_true c1, c2, List.all_map]
            rfl
          rw [ev]
          exact q _ h1
      · have c2' := Bool.eq_false_iff.mpr c2
        rw [show decide (c ∈ LET.cps.toList) = false from c2']
        refine iteT ?_
        have ev : speltB (c :: r) = false := by rw [speltB_cons, c2', Bool.and_false, Bool.false_and]
        have z := q _ g1
        rw [ev] at z
        exact z
    · have d1 : (!decide ((1 : Int) ≤ (((c :: r).length : Nat) : Int) ∧ (((c :: r).length : Nat) : Int) < 17)) = true := by
        rw [decide_eq_false (by omega)]
        rfl
      rw [d1]
      refine iteT (iteT ?_)
      have ev : speltB (c :: r) = false := by rw [speltB_cons, decide_eq_false c1, Bool.false_and, Bool.false_and]
      have z := q _ g1
      rw [ev] at z
      exact z
abbrev sLexAt : Stmt := topS 15
def kdS : Kd → Str
  | .fin => "end"
  | .sign => "sign"
  | .numeral => "numeral"
  | .keyword => "keyword"
  | .name => "name"
  | .bad => "none"
/-- what stands at now -/
def LexTup (l : Lx) : List V := [.str (kdS l.kd), .str (S l.tx), .int l.pl]
def spLexAt : Sp := fun vs H Q _ => ∃ (t : List Nat) (p : Nat), vs = [.str (S t), .int p] ∧ t.length ≤ 1000000 ∧ p ≤ t.length ∧ ∀ q H', Same H H' → H' q = some (.tup (LexTup (lexAt t p))) → Q (.ref q) H'
/-- the texts and tables that the lexemes lean on -/
structure LxTx (K : PySem.W.Frag) (mg : Str → Option Value) where
  ml : mg "len" = none
  mr : mg "range" = none
  ma : mg "all" = none
  tL : Tok
  mL : mg "LETTERS" = some (.str LET tL)
  tF : Tok
  mF : mg "FIGURES" = some (.str FIG tF)
  tS : Tok
  mS : mg "SIGNS" = some (.str SGN tS)
  tB : Tok
  mB : mg "BLANKS" = some (.str BL tB)
  tG : Tok
  mG : mg "SINGLES" = some (.str SGL tG)
  aP : Addr
  mP : mg "PAIRS" = some (.ref aP)
  hP : ∀ H, SqT K H aP (PRS.map V.str)
  aK : Addr
  mK : mg "KEYWORDS" = some (.ref aK)
  hK : ∀ H, SqT K H aK (KWS.map V.str)
  dRun : Df K mg "run_end" sRunEnd ["text", "place", "signs"]
  dGap : Df K mg "gap_end" sGapEnd ["text", "place"]
  dSp : Df K mg "is_spelt" sSpelt ["value"]
  dLx : Df K mg "lexeme_at" sLexAt ["text", "place"]
theorem flat_strs (l : List Str) : (l.map V.str).all flatV = true := by
  rw [List.all_map]
  exact List.all_eq_true.mpr fun _ _ => rfl
theorem inV_strs (z : Str) : ∀ l : List Str, inV (.str z) (l.map V.str) = decide (z ∈ l)
  | [] => rfl
  | a :: r => by
    have ih := inV_strs z r
    unfold inV at ih ⊢
    rw [List.map_cons, List.any_cons, ih]
    show ((a == z) || decide (z ∈ r)) = decide (z ∈ a :: r)
    by_cases c : z = a
    · subst c
      rw [beq_self_eq_true, Bool.true_or]
      exact (decide_eq_true List.mem_cons_self).symm
    · rw [beq_eq_false_iff_ne.mpr (Ne.symm c), Bool.false_or]
      exact decide_eq_decide.mpr ⟨fun m => List.mem_cons_of_mem _ m, fun m => (List.mem_cons.mp m).elim (fun e => absurd e c) id⟩
theorem lexV_cons (c : Nat) (r : List Nat) : lexV (c :: r) = (if S ((c :: r).take 2) ∈ PRS then (.sign, (c :: r).take 2)
    else if inS SGL c = true then (.sign, [c])
    else if inS FIG c = true then (.numeral, numT c (c :: r))
    else if runT c (c :: r) = [] ∨ 16 < (runT c (c :: r)).length then (.bad, [])
    else if S (runT c (c :: r)) ∈ KWS then (.keyword, runT c (c :: r))
    else (.name, runT c (c :: r))) := rfl
theorem str_0 : ("0" : Str) = S [48] := by decide +kernel
theorem str_e : ("" : Str) = S [] := by decide +kernel
theorem V_S {a b : List Nat} : decide (V.str (S a) = V.str (S b)) = decide (a = b) := by
  by_cases h : a = b
  · subst h
    rw [decide_eq_true rfl, decide_eq_true rfl]
  · rw [decide_eq_false (fun z => h (S_inj (V.str.inj z))), decide_eq_false h]
theorem let_sub : (LET.cps.toList.all fun c => inS SGN c) = true := by decide +kernel
theorem let_sgn {c : Nat} (h : inS LET c = true) : inS SGN c = true := List.all_eq_true.mp let_sub c (of_decide_eq_true h)
theorem run_all (f : Nat → Bool) : ∀ u : List Nat, (u.takeWhile f).all f = true
  | [] => rfl
  | a :: r => by
    rw [List.takeWhile_cons]
    split
    · rename_i h
      rw [List.all_cons, h, run_all f r]
      rfl
    · rfl
theorem scLexAt : FnScope ["text", "place", "sign", "run"] ["text", "place"] (defScope sLexAt) := ⟨rfl, rfl, rfl, by decide +kernel, rfl, by decide +kernel, by decide +kernel⟩
theorem ok_lexAt (T : LxTx K mg) : FnOk P w K mg base CX0 3 T.dLx.f T.dLx.fd ["text", "place"] spLexAt := by
  have GR : FnOk P w K mg base CX0 1 T.dRun.f T.dRun.fd ["text", "place", "signs"] spRunEnd := ok_runEnd T.ml T.dRun
  have GG : FnOk P w K mg base CX0 2 T.dGap.f T.dGap.fd ["text", "place"] spGapEnd := ok_gapEnd T.ml T.mB T.dRun T.dGap
  have GS : FnOk P w K mg base CX0 1 T.dSp.f T.dSp.fd ["value"] spSpelt := ok_spelt T.ml T.mr T.ma T.mL T.mS T.dSp
  refine T.dLx.F.ok scLexAt (fun vs H Q E h => ?_) (fun cdv A outer s H vs Q E hr h => ?_)
  · obtain ⟨t, p, rfl, _⟩ := h
    rfl
  obtain ⟨t, p, rfl, hl, hp, q⟩ := h
  have nd := scLexAt.nd
  have hr1 : Room 1 _ := hr.mono (by decide)
  refine ⟨_, pss_cons (ps_set (i := 1) nd rfl (.inl rfl) (pe_call GG hr rfl T.dGap.g T.dGap.F.kp T.dGap.b .nil pass0 (pa_cons (pv 0) (pa_cons (pv 1) pa_nil))))
    (pss_cons (ps_if (pt_cmpR op_eq (pv 1) (pe_callB call_len_str (by rfl) T.ml PySem.boot_len (pa_cons (pv 0) pa_nil)) (nomark _)) (pss_one (ps_ret (pe_tup (pa_cons pe_str (pa_cons pe_str (pa_cons (pv 1) pa_nil)))))) pss_nil)
    (pss_cons (ps_set (i := 2) nd rfl (.inl rfl) (pe_ix ix_str (pv 0) (pv 1) (fun _ _ => rfl)))
    (pss_cons (ps_if (pt_cmpR op_in_seq (pe_slice sl_str (pv 0) (po_some (pv 1)) (po_some (pe_op op_add (pv 1) pe_int))) (pe_glob (v := .ref T.aP) rfl T.mP rfl) rfl)
      (pss_one (ps_ret (pe_tup (pa_cons pe_str (pa_cons (pe_slice sl_str (pv 0) (po_some (pv 1)) (po_some (pe_op op_add (pv 1) pe_int))) (pa_cons (pv 1) pa_nil)))))) pss_nil)
    (pss_cons (ps_if (pt_cmpR op_in_sign (pv 2) (pe_glob (v := .str SGL) rfl T.mG ⟨_, rfl⟩) rfl) (pss_one (ps_ret (pe_tup (pa_cons pe_str (pa_cons (pv 2) (pa_cons (pv 1) pa_nil)))))) pss_nil)
    (pss_cons (ps_if (pt_cmpR op_in_sign (pv 2) (pe_glob (v := .str FIG) rfl T.mF ⟨_, rfl⟩) rfl)
      (pss_one (ps_ret (pe_tup (pa_cons pe_str (pa_cons (pe_slice sl_str (pv 0) (po_some (pv 1)) (po_some (pe_ifExp (pt_cmpR op_eq (pv 2) pe_str (nomark _)) (pe_op op_add (pv 1) pe_int)
        (pe_call GR hr1 rfl T.dRun.g T.dRun.F.kp T.dRun.b .nil pass0 (pa_cons (pv 0) (pa_cons (pv 1) (pa_cons (pe_glob (v := .str FIG) rfl T.mF ⟨_, rfl⟩) pa_nil))))))) (pa_cons (pv 1) pa_nil)))))) pss_nil)
    (pss_cons (ps_set (i := 3) nd rfl (.inl rfl) (pe_ifExp (pt_cmpR op_in_sign (pv 2) (pe_glob (v := .str LET) rfl T.mL ⟨_, rfl⟩) rfl)
        (pe_slice sl_str (pv 0) (po_some (pv 1)) (po_some (pe_call GR hr1 rfl T.dRun.g T.dRun.F.kp T.dRun.b .nil pass0 (pa_cons (pv 0) (pa_cons (pv 1) (pa_cons (pe_glob (v := .str SGN) rfl T.mS ⟨_, rfl⟩) pa_nil)))))) pe_str))
    (pss_cons (ps_if (PW.pt (pw_or (pt_cmpR op_eq (pv 3) pe_str (nomark _)) (pw_or1 (pt_not (pt_val (pe_call GS hr1 rfl T.dSp.g T.dSp.F.kp T.dSp.b .nil pass0 (pa_cons (pv 3) pa_nil)))))))
      (pss_one (ps_ret (pe_tup (pa_cons pe_str (pa_cons pe_str (pa_cons (pv 1) pa_nil)))))) pss_nil)
    (pss_one (ps_ret (pe_tup (pa_cons (pe_ifExp (pt_cmpR op_in_seq (pv 3) (pe_glob (v := .ref T.aK) rfl T.mK rfl) rfl) pe_str pe_str) (pa_cons (pv 3) (pa_cons (pv 1) pa_nil))))))))))))), ?_⟩
  -- place = gap_end(text, place)
  refine ⟨_, rfl, _, rfl, t, p, rfl, hl, hp, fun n hn hv => ?_⟩
  have hz : S_fits hl = S_fits hl := rfl
  have e2 : ((n : Nat) : Int) + 2 = ((n + 2 : Nat) : Int) := rfl
  have e1 : ((n : Nat) : Int) + 1 = ((n + 1 : Nat) : Int) := rfl
  have hpl : t.length - (gapA t p).length = n := by rw [← hv, List.length_drop]; omega
  have done : ∀ (k : Kd) (tx : List Nat), lexV (t.drop n) = (k, tx) → ∀ H', Same H H' → ∀ pp, H' pp = none → Q (.ref pp) (upd H' pp (.tup [.str (kdS k), .str (S tx), .int n])) := fun k tx e H' sm pp hpp => by
    refine q pp _ (sm.trans (same_up hpp _)) ?_
    rw [upd_same]
    have z : lexAt t p = ⟨k, tx, n⟩ := by
      unfold lexAt
      rw [← hv, e, hv, hpl]
    rw [z]
    rfl
  have three : ∀ {a b c : V}, ([a, b, c] : List V).length ≤ sizeLine := by
    intro a b c
    show 3 ≤ sizeLine
    decide
  refine ⟨_, rfl, _, rfl, _, rfl, S_fits hl, rfl, _, rfl, ?_⟩
  rw [S_len]
  by_cases c0 : n = t.length
  · subst c0
    rw [decide_eq_true rfl]
    refine iteT ⟨_, rfl, three, fun pp hpp => ?_⟩
    exact done .fin [] (by rw [List.drop_length]; rfl) H (Same.refl H) pp hpp
  rw [decide_eq_false (fun z => c0 (by have := V.int.inj z; omega))]
  have hlt : n < t.length := by omega
  have hc : t[n]? = some t[n] := List.getElem?_eq_getElem hlt
  have hd := List.drop_eq_getElem_cons hlt
  generalize t[n] = c at hc hd
  refine iteF ?_
  -- sign = text[place]
  refine ⟨_, rfl, _, rfl, _, _, c, rfl, rfl, S_fits hl, atI_nat (by rw [S_codes]; exact hc), ?_⟩
  -- text[place : place + 2] in PAIRS
  refine ⟨_, rfl, _, rfl, _, rfl, _, rfl, _, _, rfl, rfl, _, rfl, _, rfl, S_fits hl, T.aP, _, rfl, .inr (T.hP _), rfl, flat_strs _, _, rfl, ?_⟩
  rw [e2, cutS_nat, show n + 2 - n = 2 by omega, inV_strs]
  have d2 : (t.drop n).take 2 = (c :: t.drop (n + 1)).take 2 := by rw [hd]
  by_cases c1 : S ((c :: t.drop (n + 1)).take 2) ∈ PRS
  · rw [d2, show (if false = true then !decide (S ((c :: t.drop (n + 1)).take 2) ∈ PRS) else decide (S ((c :: t.drop (n + 1)).take 2) ∈ PRS)) = true from decide_eq_true c1]
    refine iteT ?_
    refine ⟨_, rfl, _, rfl, _, rfl, _, rfl, _, _, rfl, rfl, _, rfl, _, rfl, S_fits hl, _, rfl, three, fun pp hpp => ?_⟩
    rw [e2, cutS_nat, show n + 2 - n = 2 by omega, d2]
    exact done .sign _ (by rw [hd]; rw [lexV_cons, if_pos c1]) H (Same.refl H) pp hpp
  rw [d2, show (if false = true then !decide (S ((c :: t.drop (n + 1)).take 2) ∈ PRS) else decide (S ((c :: t.drop (n + 1)).take 2) ∈ PRS)) = false from decide_eq_false c1]
  refine iteF ?_
  -- sign in SINGLES
  refine ⟨_, rfl, c, _, rfl, rfl, _, rfl, ?_⟩
  by_cases c2 : inS SGL c = true
  · rw [show decide (c ∈ SGL.cps.toList) = true from c2]
    refine iteT ⟨_, rfl, _, rfl, three, fun pp hpp => ?_⟩
    exact done .sign [c] (by rw [hd]; rw [lexV_cons, if_neg c1, if_pos c2]) H (Same.refl H) pp hpp
  rw [show decide (c ∈ SGL.cps.toList) = false from Bool.eq_false_iff.mpr c2]
  refine iteF ?_
  -- sign in FIGURES
  refine ⟨_, rfl, c, _, rfl, rfl, _, rfl, ?_⟩
  by_cases c3 : inS FIG c = true
  · rw [show decide (c ∈ FIG.cps.toList) = true from c3]
    refine iteT ?_
    refine ⟨_, rfl, _, rfl, _, rfl, _, rfl, rfl, _, rfl, ?_⟩
    rw [str_0, show V.str ⟨#[c]⟩ = V.str (S [c]) from rfl, V_S]
    have fin : ∀ pp, H pp = none → Q (.ref pp) (upd H pp (.tup [.str (kdS .numeral), .str (S (numT c (c :: t.drop (n + 1)))), .int n])) := fun pp hpp =>
      done .numeral _ (by rw [hd, lexV_cons, if_neg c1, if_neg c2, if_pos c3]) H (Same.refl H) pp hpp
    unfold numT at fin
    by_cases c4 : c = 48
    · subst c4
      rw [decide_eq_true rfl]
      refine iteT ?_
      refine ⟨_, rfl, _, _, rfl, rfl, _, rfl, _, rfl, S_fits hl, _, rfl, three, fun pp hpp => ?_⟩
      rw [e1, cutS_nat, show n + 1 - n = 1 by omega, hd]
      rw [if_pos rfl] at fin
      exact fin pp hpp
    · rw [decide_eq_false (fun z => c4 (List.cons.inj z).1)]
      refine iteF ?_
      refine ⟨_, rfl, _, rfl, t, n, FIG, rfl, hl, hn, _, rfl, _, rfl, S_fits hl, _, rfl, three, fun pp hpp => ?_⟩
      rw [cutS_nat, take_run, hd]
      rw [if_neg c4] at fin
      exact fin pp hpp
  rw [show decide (c ∈ FIG.cps.toList) = false from Bool.eq_false_iff.mpr c3]
  refine iteF ?_
  -- run
  refine ⟨_, rfl, c, _, rfl, rfl, _, rfl, ?_⟩
  by_cases c4 : inS LET c = true
  · rw [show decide (c ∈ LET.cps.toList) = true from c4]
    refine iteT ?_
    refine ⟨_, rfl, _, rfl, _, rfl, _, rfl, _, rfl, t, n, SGN, rfl, hl, hn, _, rfl, _, rfl, S_fits hl, ?_⟩
    rw [cutS_nat, take_run, hd]
    have er : runT c (c :: t.drop (n + 1)) = (c :: t.drop (n + 1)).takeWhile (inS SGN) := if_pos c4
    have cS : inS SGN c = true := let_sgn c4
    have hne : (c :: t.drop (n + 1)).takeWhile (inS SGN) = c :: (t.drop (n + 1)).takeWhile (inS SGN) := by rw [List.takeWhile_cons, if_pos cS]
    have hlen : ((c :: t.drop (n + 1)).takeWhile (inS SGN)).length ≤ 1000000 := by
      have z := takeWhile_len (inS SGN) (c :: t.drop (n + 1))
      rw [← hd, List.length_drop] at z
      rw [hd] at z
      omega
    have hall := run_all (inS SGN) (c :: t.drop (n + 1))
    generalize (c :: t.drop (n + 1)).takeWhile (inS SGN) = run at er hne hlen hall
    refine ⟨_, rfl, rfl, _, rfl, ?_⟩
    rw [str_e, V_S, decide_eq_false (by rw [hne]; exact fun z => nomatch z)]
    refine iteF ?_
    refine ⟨_, rfl, run, rfl, hlen, fun H' sm => ⟨_, rfl, ?_⟩⟩
    have sp : speltB run = decide (run.length < 17) := by
      rw [hne] at hall ⊢
      rw [speltB_cons, c4, hall, Bool.and_true, Bool.and_true]
    rw [sp]
    by_cases c5 : run.length < 17
    · rw [decide_eq_true c5]
      refine iteF ?_
      refine ⟨_, rfl, T.aK, _, rfl, .inr (T.hK _), rfl, flat_strs _, _, rfl, ?_⟩
      rw [inV_strs]
      have nb : ¬ (runT c (c :: t.drop (n + 1)) = [] ∨ 16 < (runT c (c :: t.drop (n + 1))).length) := by
        rw [er]
        rintro (z | z)
        · rw [hne] at z
          cases z
        · omega
      by_cases c6 : S run ∈ KWS
      · rw [show (if false = true then !decide (S run ∈ KWS) else decide (S run ∈ KWS)) = true from decide_eq_true c6]
        refine iteT ⟨_, rfl, _, rfl, three, fun pp hpp => ?_⟩
        exact done .keyword _ (by rw [hd, lexV_cons, if_neg c1, if_neg c2, if_neg c3, if_neg nb, er, if_pos c6]) H' sm pp hpp
      · rw [show (if false = true then !decide (S run ∈ KWS) else decide (S run ∈ KWS)) = false from decide_eq_false c6]
        refine iteF ⟨_, rfl, _, rfl, three, fun pp hpp => ?_⟩
        exact done .name _ (by rw [hd, lexV_cons, if_neg c1, if_neg c2, if_neg c3, if_neg nb, er, if_neg c6]) H' sm pp hpp
    · rw [decide_eq_false c5]
      refine iteT ⟨_, rfl, three, fun pp hpp => ?_⟩
      have yb : (runT c (c :: t.drop (n + 1)) = [] ∨ 16 < (runT c (c :: t.drop (n + 1))).length) := .inr (by rw [er]; omega)
      exact done .bad [] (by rw [hd, lexV_cons, if_neg c1, if_neg c2, if_neg c3, if_pos yb]) H' sm pp hpp
  · rw [show decide (c ∈ LET.cps.toList) = false from Bool.eq_false_iff.mpr c4]
    refine iteF ?_
    refine ⟨_, rfl, rfl, _, rfl, ?_⟩
    rw [decide_eq_true rfl]
    refine iteT (iteT ⟨_, rfl, three, fun pp hpp => ?_⟩)
    have yb : (runT c (c :: t.drop (n + 1)) = [] ∨ 16 < (runT c (c :: t.drop (n + 1))).length) := .inl (if_neg c4)
    exact done .bad [] (by rw [hd, lexV_cons, if_neg c1, if_neg c2, if_neg c3, if_pos yb]) H (Same.refl H) pp hpp
end
end K04
end

section
set_option Elab.async false
set_option maxRecDepth 100000
set_option maxHeartbeats 4000000
/-! K5: BadText, its __init__ (super().__init__ of a text, then one field), raising it. -/
namespace K04
open PySem L2 PyProof.Rows PySem.W
abbrev sBadInit : Stmt := inClass (topS 2) 0
/-- what is written of BadText at C; its __init__ at f1, whose cell __class__ is cc, its code object at cda -/
structure BadTx (P : Program) (K : Frag) (mg : Str → Option Value) (C f1 cc cda : Addr) : Prop where
  gC : mg "BadText" = some (.ref C)
  oex : OexC K C
  te : exmOne K (.ref C) (.ref C) = some true
  ga : findIn K (.ref C) "__getattribute__" = some (some (.builtin "BaseException.__getattribute__"))
  gg : findIn K (.ref C) "__getattr__" = some none
  hd : hasDictIn K C = true
  np : findIn K (.ref C) "place" = some none
  iC : findIn K (.ref C) "__init__" = some (some (.ref f1))
  tI : typeIn K (.ref f1) = some (.type "function")
  fn : ∃ oc od doc pm an ct osl, K.lookup f1 = some ⟨oc, od, .func (fnX "__init__" "BadText.__init__" (defArgs sBadInit) (defBody sBadInit) (defScope sBadInit) [("__class__", cc)] .none .none doc pm an (.ref cda) ct), osl⟩
  cd : codeIn K (.ref cda) "BadText.__init__" = true
  cell : ∃ oc od osl, K.lookup cc = some ⟨oc, od, .cell (some (.ref C)), osl⟩
  code : ∃ oc od vs osl file tf, K.lookup cda = some ⟨oc, od, .fields vs, osl⟩ ∧ vs[2]? = some (.str file tf) ∧ ((P.main.file : Str) == file) = true
  sup : mg "super" = none
  top : (P.main.scope.names.lookup ("super" : Str)).isSome = false
  sl : mroIn K C (.ref C) = some true
  sVE : subIn K (.ref C) (.type "ValueError") = some true
  th : nsIn K cStatics "thirdparty.any" = some none
  al : ∃ cdt, clsIn K C = some cdt ∧ alongIn K "__init__" ((cdt.mro.dropWhile (· != .ref C)).drop 1) = some (some (.builtin "ValueError.__init__"))
def spBadInit (C : Addr) : Sp := fun vs H Q _ => ∃ (a : Addr) (p : Int), vs = [.ref a, .int p] ∧ H a = some (exo a C none) ∧
  ∀ d, H d = none → d ≠ a → Q .non (upd (upd H d (exd d [("place", .int p)])) a (exo a C (some d)))
section
variable {prog : Program} {w : World} {A : Around} {E : Value → Shared → Prop} {h : Heap} {g : Array GenState} {d : Drawn} {t : Nat} {os : OsState}
/-- the wrapper of ValueError.__init__ at u, bound to the exception at e, called -/
theorem call_wrapped {nm q : Str} {C N : Addr} {bs bm : List Value} {hdct : Bool} {sn : List Str} {sub : List Value} {ab : Bool} {col : Option Bool} {dd : Option Addr} {k0 k1 k2 k3 k5 : Option Value}
    {u e t0 : Addr} {rest : List Value} {Q : Value → Shared → Prop} (hC : h.get? C = some (excClassObj nm q C N bs bm hdct sn sub ab col dd k0 k1 k2 k3 k5 "ValueError.__new__"))
    (he : h.get? e = some (excObj C t0 none .none)) (hu : h.get? u = some (kxs_mw "ValueError.__init__" e)) (hz : rest.length ≤ sizeLine)
    (hq : ∀ h' t1, (∀ b o, b ≠ e → h.get? b = some o → h'.get? b = some o) → h'.get? e = some (excObj C t1 none .none) → Q .none ⟨h', g, d, t, os⟩) :
    wpAny (model prog w) A (call (.ref u) rest) Q E ⟨h, g, d, t, os⟩ := by
  have FB := F.excBase_ValueError
  have kind : (Value.type "method-wrapper" == Value.type "method" || Value.type "method-wrapper" == Value.type "builtin_function_or_method" || Value.type "method-wrapper" == Value.type "method-wrapper") = true := by decide
  refine wpAny_call (codeAny_of_tree (show wpAny _ A.in1 (callAny (.ref u) ⟨rest, []⟩) _ _ _ from ?_))
  simp only [callAny]
  refine wpAny_bind (wpAny_load (o := kxs_mw "ValueError.__init__" e) hu ?_)
  simp only [kxs_mw, kind, if_true]
  have bound := check_bound_init (M := model prog w) (A := A.in1) (E := fun e s' => E e s') (rest := rest) (Q := fun _ s' => s' = ⟨h, g, d, t, os⟩) FB.toExcCallFacts hC he rfl rfl
  refine W.KFB.if_so (by decide) (wpAny_bind (wpAny_mono bound (fun _ s' e' => ?_) fun _ _ z => z))
  subst e'
  refine wpAny_bind (wpAny_pure (wpAny_pure ⟨plainId_quiet FB.init.plain _, codeAny_builtin FB.initEntry ?_⟩))
  exact exc_init_tree (cls := .ref C) (t0 := t0) (dv := none) (c2 := .none) (c3 := .none) (b4 := .bool false) he hz fun h' k e' _ => hq h' _ k e'
end
section
variable {P : Program} {w : World} {K : Frag} {mg : Str → Option Value} {base : Heap} {C f1 cc cda : Addr}
theorem scBad : NdefX.NScope ["self", "place", "__class__"] ["self", "place"] ["__class__"] (defScope sBadInit) := NdefX.nscope_by (by decide +kernel)
def NFB (cc cda : Addr) : NdefX.NF := ⟨"__init__", "BadText.__init__", defArgs sBadInit, defBody sBadInit, defScope sBadInit, [("__class__", cc)], cda⟩
theorem boot_super : bootBuiltins "super" = some (.type "super") := by decide +kernel
theorem env_badInit {doc pm ct : Value} {an : Option Addr} {L : Addr} : callEnv (fnX "__init__" "BadText.__init__" (defArgs sBadInit) (defBody sBadInit) (defScope sBadInit) [("__class__", cc)] .none .none doc pm an (.ref cda) ct) L f1 =
    NdefX.envF (NFB cc cda) f1 L := rfl
theorem ok_badInit {fd : FuncData} (T : BadTx P K mg C f1 cc cda) (hfd : ∃ oc od osl, K.lookup f1 = some ⟨oc, od, .func fd, osl⟩) : FnOk P w K mg base CX0 1 f1 fd ["self", "place"] (spBadInit C) := by
  have len : ∀ vs H Q E, spBadInit C vs H Q E → vs.length = (["self", "place"] : List Str).length := fun vs H Q E h => by
    obtain ⟨a, p, rfl, _⟩ := h
    rfl
  refine ⟨len, fun A outer s H args us vs Q E hr e0 hb r hsp => ?_⟩
  obtain ⟨x, p, rfl, hx, q⟩ := hsp
  obtain ⟨u1, u2, rfl, r1, r2⟩ : ∃ u1 u2, us = [u1, u2] ∧ RelV (.ref x) u1 ∧ RelV (.int p) u2 := by
    cases r with
    | cons p1 q1 =>
      cases q1 with
      | cons p2 q2 =>
        cases q2
        exact ⟨_, _, rfl, p1, p2⟩
  obtain rfl : u1 = Value.ref x := r1
  have KX : K.In s.heap := e0.mod.kin.keeps fun b o e => (e0.bs b o e).1
  have lim : s.heap.NoLimit := e0.mod.nolimit.keeps fun b o e => (e0.bs b o e).1
  obtain ⟨oc, od, doc, pm, an, ct, osl, lk⟩ := T.fn
  obtain ⟨oc', od', osl', lk'⟩ := hfd
  rw [lk] at lk'
  cases lk'
  have hcc : ∃ oc od osl, base.get? cc = some ⟨oc, od, .cell (some (.ref C)), osl⟩ := by
    obtain ⟨oc, od, osl, e⟩ := T.cell
    exact ⟨oc, od, osl, e0.mod.kin _ _ e⟩
  have CA : NdefX.CellsAt [("__class__", cc)] ["__class__"] [none] s.heap H := by
    obtain ⟨oc, od, osl, e⟩ := hcc
    have key : ∀ (y : Str) (c : Addr), ([(("__class__" : Str), cc)] : List (Str × Addr)).lookup y = some c → y = "__class__" ∧ c = cc := fun y c z => by
      have m := PySem.mem_of_lookup z
      rw [List.mem_singleton] at m
      exact ⟨congrArg Prod.fst m, congrArg Prod.snd m⟩
    refine ⟨rfl, fun y c z => ?_, fun y y' c z z' => (key _ _ z).1.trans (key _ _ z').1.symm, fun i y z => ⟨cc, ?_, fun v zv => ?_⟩⟩
    · obtain ⟨_, rfl⟩ := key _ _ z
      exact ⟨(e0.bs _ _ e).2, _, _, (e0.bs _ _ e).1, rfl⟩
    · have m := List.mem_singleton.mp (List.mem_of_getElem? z)
      rw [m]
      rfl
    · cases i with
      | zero => cases zv
      | succ i => cases zv
  refine ks_codeAny_call_defAt (binds := [("self", .ref x), ("place", u2)]) hr.depth (KX _ _ lk) rfl lim (codeRec_of KX T.cd) rfl hb scBad.nocell ?_ (fun h1 hns kp => ?_) rfl rfl rfl
  · intro y hy
    rcases List.mem_cons.mp hy with rfl | hy
    · exact scBad.par "self" List.mem_cons_self
    · rw [List.mem_singleton.mp hy]
      exact scBad.par "place" (List.mem_cons_of_mem _ List.mem_cons_self)
  rw [env_badInit]
  have I : Inv (NdefX.ncx CX0 P w K mg base ["self", "place", "__class__"] (NFB cc cda) f1 A outer s H E) [] (NdefX.startF ["self", "place", "__class__"] [.ref x, .int p] [none]) H { s with heap := h1, toks := s.toks + 2 } :=
    NdefX.inv_startN scBad hr.hd e0 rfl (.cons rfl (.cons r2 .nil)) CA hns kp
  have eb : defBody sBadInit = [.Expr (.Call (.Attribute (.Call (.Name "super" ⟨7, 8, 7, 13⟩) [] [] ⟨7, 8, 7, 15⟩) "__init__" ⟨7, 8, 7, 24⟩) [.Constant (.str "a text is wrong from a place on") 0 ⟨7, 25, 7, 58⟩] [] ⟨7, 8, 7, 59⟩) ⟨7, 8, 7, 59⟩,
      .Assign [.Attribute (.Name "self" ⟨8, 8, 8, 12⟩) "place" ⟨8, 8, 8, 18⟩] (.Name "place" ⟨8, 21, 8, 26⟩) ⟨8, 8, 8, 26⟩] := by rfl
  rw [eb]
  -- super().__init__("..")
  obtain ⟨t0, hx1⟩ := exo_at I.hok hx
  obtain ⟨cdt, hcl, hal⟩ := T.al
  obtain ⟨nm, qn, N, bs, bm, sn, sub, ab, col, dd, k0, k1, k2, k3, k5, hC, hbm⟩ := T.oex.cls
  obtain ⟨oc2, od2, vs2, osl2, file, tf, hcode, hvs2, hfile⟩ := T.code
  obtain ⟨oc3, od3, osl3, hcell⟩ := T.cell
  have X1 : K.In h1 := KX.keeps kp
  have hCd := X1 _ _ hC
  have hin : InstAt h1 x { cls := .ref C, dict := none, data := .fields #[.ref t0, .none, .none, .none, .bool false, .none] } C none := ⟨hx1, rfl, rfl, trivial⟩
  have hxC : x ≠ C := ks_ne X1 hin hcl
  obtain ⟨mb, hb1, hb2⟩ := e0.mod.blt
  have keepB : ∀ b o, base.get? b = some o → h1.get? b = some o := fun b o z => kp b o (e0.bs b o z).1
  refine ks_wpAt_execs_cons (ks_wpAt_Expr_any (ks_wpAt_MethodCall ?_) rfl rfl)
  refine ks_wpAt_super_base (f := f1) (cc := cda) rfl rfl rfl rfl (X1 _ _ lk) rfl rfl rfl (X1 _ _ hcode) rfl hvs2 hfile T.top ?_
  refine ks_loadName_global rfl rfl (Calls.loadGlobal_builtin (e0.mod.glob.keeps keepB) T.sup (hb1.keeps keepB) ((hb2 _ (by decide +kernel)).trans boot_super) ⟨rfl, ?_⟩)
  refine wpAny_loadName_free rfl rfl rfl ⟨_, X1 _ _ hcell, rfl⟩ ?_
  refine wpAny_loadName_local (v := .ref x) rfl rfl hns (by rfl) ?_
  refine ks_wpAny_isType_cls hCd rfl ⟨rfl, ?_⟩
  refine ks_wpAny_call_super hCd rfl hx1 rfl (fun c z => nomatch z) (looks_mroIn X1 T.sl) (fun h2 hso kk => ?_)
  have X2 : K.In h2 := X1.keeps kk
  have I2 := I.kept (h' := h2) (t' := s.toks + 2) kk
  have hx2 := kk _ _ hx1
  have hin2 : InstAt h2 x { cls := .ref C, dict := none, data := .fields #[.ref t0, .none, .none, .none, .bool false, .none] } C none := ⟨hx2, rfl, rfl, trivial⟩
  have hI2 : Looks (model P w) h2 (isInstance (.ref x) (.type "ValueError")) true := hin2.type.andThen (looks_subIn X2 T.sVE)
  refine kxs_getMethod kxs_ValueError hso (looks_opaque X2 T.th) (l₀ := cdt.mro) (fun A' Q' E' s' k' q' => wpAny_bind (looks_clsIn X2 hcl A' _ E' s' k' (wpAny_pure q'))) rfl X2 hal hI2 hxC (by decide +kernel) ?_
  have kp3 : ∀ b o, h2.get? b = some o → (h2.push (kxs_mw "ValueError.__init__" x)).get? b = some o := fun b o z => Heap.get?_push_of_some _ z
  have I3 := I2.kept (h' := h2.push (kxs_mw "ValueError.__init__" x)) (t' := s.toks + 2 + 1) kp3
  refine kxs_callWith (i := "ValueError.__init__") (x := x) rfl (Calls.evalArgs_plain ?_)
  refine Calls.spliced_cons ?_
  refine Calls.Constant_str (k := 0) (pos := ⟨7, 25, 7, 58⟩) ?_
  refine Calls.spliced_nil ?_
  refine ⟨Heap.get?_push_at rfl rfl, ?_⟩
  refine call_wrapped (kp3 _ _ (X2 _ _ hC)) (kp3 _ _ hx2) (Heap.get?_push_at rfl rfl) (by show 1 ≤ sizeLine; decide) (fun h4 t1 k4 hx4 => ?_)
  have I4 := I3.write (h' := h4) (t' := s.toks + 2 + 1 + 1) (x := x) (e := x) (o := exo x C none) (by rw [hx]; exact True.intro) (.inl rfl) k4 ⟨_, hx4⟩ (exo_ok hx4)
  have eH : upd H x (exo x C none) = H := by
    funext b
    by_cases hb : b = x
    · rw [hb, upd_same, hx]
    · rw [upd_ne hb]
  rw [eH] at I4
  -- self.place = place
  have tail : PSs (NdefX.ncx CX0 P w K mg base ["self", "place", "__class__"] (NFB cc cda) f1 A outer s H E) [.Assign [.Attribute (.Name "self" ⟨8, 8, 8, 12⟩) "place" ⟨8, 8, 8, 18⟩] (.Name "place" ⟨8, 21, 8, 26⟩) ⟨8, 8, 8, 26⟩] (tOst K "place" (tVar 0) (tVar 1)) :=
    pss_one (ps_ost (pv 0) (pv 1))
  have go : tOst K "place" (tVar 0) (tVar 1) { nx := fun _ H' => Q .non H', rt := fun _ _ => False } (NdefX.startF ["self", "place", "__class__"] [.ref x, .int p] [none]) H :=
    ⟨_, rfl, _, rfl, x, C, rfl, T.oex, T.np, .inl ⟨hx, fun dx n1 n2 => q dx n1 n2⟩⟩
  refine wpAt_of_wpAny (wpAny_mono (tail.run [] _ _ H _ I4 go) (fun fl s' hs => ?_) fun _ _ z => z)
  cases fl with
  | next =>
    obtain ⟨σ', H', J, q'⟩ := hs
    exact ⟨.non, H', J.os, J.bare, J.base, J.hok, rfl, q'⟩
  | ret u =>
    obtain ⟨_, _, _, _, _, z⟩ := hs
    exact z.elim
  | brk =>
    obtain ⟨_, _, _, z⟩ := hs
    exact z.elim
  | cont =>
    obtain ⟨_, _, _, z⟩ := hs
    exact z.elim
end
end K04
end

section
set_option Elab.async false
set_option maxRecDepth 100000
set_option maxHeartbeats 4000000
set_option pp.maxSteps 2000
/-! K6: the class Lexer: what stands in one, and each method's promise. -/
namespace K04
open PySem L2 PyProof.Rows
/-- the fields of a lexer -/
def lfs (t : List Nat) (q : Addr) : List (Str × V) := [("text", .str (S t)), ("now", .ref q)]
theorem lfs_text (t : List Nat) (q : Addr) : (lfs t q).lookup ("text" : Str) = some (.str (S t)) := by
  unfold lfs
  rw [List.lookup_cons, show (("text" : Str) == ("text" : Str)) = true by decide +kernel]
theorem lfs_now (t : List Nat) (q : Addr) : (lfs t q).lookup ("now" : Str) = some (.ref q) := by
  unfold lfs
  rw [List.lookup_cons, show (("now" : Str) == ("text" : Str)) = false by decide +kernel, List.lookup_cons, show (("now" : Str) == ("now" : Str)) = true by decide +kernel]
theorem lfs_put (t : List Nat) (q r : Addr) : putF "now" (.ref r) (lfs t q) = lfs t r := by
  unfold lfs
  rw [putF, if_neg (by decide +kernel), putF, if_pos rfl]
theorem lfs_put1 (t : List Nat) (q : Addr) : putF "now" (.ref q) (putF "text" (.str (S t)) []) = lfs t q := by
  unfold lfs
  rw [putF, putF, if_neg (by decide +kernel), putF]
theorem lfs_no (t : List Nat) (q : Addr) {m : Str} (h1 : (m == ("text" : Str)) = false) (h2 : (m == ("now" : Str)) = false) : (lfs t q).lookup m = none := by
  unfold lfs
  rw [List.lookup_cons, h1, List.lookup_cons, h2]
  rfl
/-- at x: a lexer over t that stands at l -/
structure LAt (C : Addr) (t : List Nat) (H : Hp) (x : Addr) (l : Lx) : Prop where
  ex : ∃ dx q, H x = some (.ins C dx (lfs t q)) ∧ H q = some (.tup (LexTup l))
  ok : LxOk t l
/-- all but x is as it was -/
def Kp (x : Addr) (H H' : Hp) : Prop := ∀ b o, H b = some o → b ≠ x → H' b = some o
theorem Kp.refl (x : Addr) (H : Hp) : Kp x H H := fun _ _ h _ => h
theorem Kp.trans {x : Addr} {H H1 H2 : Hp} (a : Kp x H H1) (b : Kp x H1 H2) : Kp x H H2 := fun c o h n => b c o (a c o h n) n
theorem Kp.same {x : Addr} {H H1 : Hp} (a : Same H H1) : Kp x H H1 := fun c o h _ => a c o h
theorem Kp.up {x : Addr} {H H1 : Hp} (a : Kp x H H1) {p : Addr} (h : H1 p = none) (o : HO) : Kp x H (upd H1 p o) := a.trans (Kp.same (same_up h o))
/-- what is changed was not there before -/
theorem Kp.set {x : Addr} {H H1 : Hp} (a : Kp x H H1) {p : Addr} (h : H p = none) (o : HO) : Kp x H (upd H1 p o) := fun b u e n => by
  rw [upd_ne (ne_of_none e h)]
  exact a b u e n
theorem LAt.same {C : Addr} {t : List Nat} {H H' : Hp} {x : Addr} {l : Lx} (h : LAt C t H x l) (s : Same H H') : LAt C t H' x l := by
  obtain ⟨⟨dx, q, h1, h2⟩, ok⟩ := h
  exact ⟨⟨dx, q, s _ _ h1, s _ _ h2⟩, ok⟩
/-- nothing of the lexer is touched by a change elsewhere -/
theorem LAt.set {C : Addr} {t : List Nat} {H : Hp} {x p : Addr} {l : Lx} {o : HO} (h : LAt C t H x l) (hp : ∀ dx fs, H p ≠ some (.ins C dx fs)) (hq : ∀ xs, H p ≠ some (.tup xs)) : LAt C t (upd H p o) x l := by
  obtain ⟨⟨dx, q, h1, h2⟩, ok⟩ := h
  refine ⟨⟨dx, q, ?_, ?_⟩, ok⟩
  · rw [upd_ne (fun e => by subst e; exact hp _ _ h1)]
    exact h1
  · rw [upd_ne (fun e => by subst e; exact hq _ h2)]
    exact h2
/-- what is wanted of a raised BadText -/
def Rz (CB x : Addr) (H : Hp) (E : XK) (p : Nat) : Prop := ∀ H' d, Kp x H H' → H' d = some (.xd [("place", .int p)]) → E (.ref CB) (some d) H'
theorem Rz.kp {CB x : Addr} {H H1 : Hp} {E : XK} {p : Nat} (h : Rz CB x H E p) (k : Kp x H H1) : Rz CB x H1 E p := fun H' d k' e => h H' d (k.trans k') e

/-! ### promises -/
section
variable (K : PySem.W.Frag) (C CB : Addr)
def spWhat : Sp := fun vs H Q _ => ∃ t x l, vs = [.ref x] ∧ LAt C t H x l ∧ Q (.str (kdS l.kd)) H
def spNext : Sp := fun vs H Q _ => ∃ t x l z, vs = [.ref x, .str z] ∧ LAt C t H x l ∧ Q (.bl (decide (S l.tx = z))) H
def oneOf (l : Lx) (zs : List Str) : Bool := (l.kd == .sign || l.kd == .keyword) && decide (S l.tx ∈ zs)
def spOneOf : Sp := fun vs H Q _ => ∃ t x l p zs, vs = [.ref x, .ref p] ∧ LAt C t H x l ∧ SqT K H p (zs.map V.str) ∧ ∀ H', Same H H' → Q (.bl (oneOf l zs)) H'
def spGo : Sp := fun vs H Q _ => ∃ t x l, vs = [.ref x] ∧ LAt C t H x l ∧ t.length ≤ 1000000 ∧ ∀ H', Kp x H H' → LAt C t H' x (nx t l) → Q (.str (S l.tx)) H'
def spNeed : Sp := fun vs H Q E => ∃ t x l b, vs = [.ref x, .bl b] ∧ LAt C t H x l ∧ (b = true → Q .non H) ∧ (b = false → Rz CB x H E l.pl)
def spTake : Sp := fun vs H Q E => ∃ t x l z, vs = [.ref x, .str z] ∧ LAt C t H x l ∧ t.length ≤ 1000000 ∧ (S l.tx = z → ∀ H', Kp x H H' → LAt C t H' x (nx t l) → Q .non H') ∧ (S l.tx ≠ z → Rz CB x H E l.pl)
def spHas : Sp := fun vs H Q _ => ∃ t x l z, vs = [.ref x, .str z] ∧ LAt C t H x l ∧ t.length ≤ 1000000 ∧ (S l.tx = z → ∀ H', Kp x H H' → LAt C t H' x (nx t l) → Q (.bl true) H') ∧ (S l.tx ≠ z → Q (.bl false) H)
def spName : Sp := fun vs H Q E => ∃ t x l, vs = [.ref x] ∧ LAt C t H x l ∧ t.length ≤ 1000000 ∧ (l.kd = .name → ∀ H', Kp x H H' → LAt C t H' x (nx t l) → Q (.str (S l.tx)) H') ∧ (l.kd ≠ .name → Rz CB x H E l.pl)
def spFinish : Sp := fun vs H Q E => ∃ t x l, vs = [.ref x] ∧ LAt C t H x l ∧ (l.kd = .fin → Q .non H) ∧ (l.kd ≠ .fin → Rz CB x H E l.pl)
/-- __init__ of a new lexer -/
def spLexer : Sp := fun vs H Q _ => ∃ t x dx, vs = [.ref x, .str (S t)] ∧ H x = some (.ins C dx []) ∧ t.length ≤ 1000000 ∧ ∀ H', Kp x H H' → LAt C t H' x (lexAt t 0) → Q .non H'
end
abbrev sM (j : Nat) : Stmt := inClass (topS 16) j
/-- what is written of Lexer at C -/
structure ClTx (K : PySem.W.Frag) (mg : Str → Option Value) (C : Addr) where
  cl : Cls K C
  nT : NoAttr K C "text"
  nN : NoAttr K C "now"
  mgC : mg "Lexer" = some (.ref C)
  mInit : Md K C "__init__" "Lexer.__init__" (sM 0) ["self", "text"]
  mkC : Mk K C mInit.f
  mWhat : Md K C "what" "Lexer.what" (sM 1) ["self"]
  mNext : Md K C "is_next" "Lexer.is_next" (sM 2) ["self", "lexeme"]
  mOne : Md K C "is_one_of" "Lexer.is_one_of" (sM 3) ["self", "some"]
  mGo : Md K C "go" "Lexer.go" (sM 4) ["self"]
  mNeed : Md K C "need" "Lexer.need" (sM 5) ["self", "is_right"]
  mTake : Md K C "take" "Lexer.take" (sM 6) ["self", "lexeme"]
  mHas : Md K C "has" "Lexer.has" (sM 7) ["self", "lexeme"]
  mName : Md K C "name" "Lexer.name" (sM 8) ["self"]
  mFin : Md K C "finish" "Lexer.finish" (sM 9) ["self"]
section
variable {P : Program} {w : World} {K : PySem.W.Frag} {mg : Str → Option Value} {base : Heap} {C CB f1 cc cda : Addr}
theorem scInit : FnScope ["self", "text"] ["self", "text"] (defScope (sM 0)) := ⟨rfl, rfl, rfl, by decide +kernel, rfl, by decide +kernel, by decide +kernel⟩
theorem scWhat : FnScope ["self"] ["self"] (defScope (sM 1)) := ⟨rfl, rfl, rfl, by decide +kernel, rfl, by decide +kernel, by decide +kernel⟩
theorem scNext : FnScope ["self", "lexeme"] ["self", "lexeme"] (defScope (sM 2)) := ⟨rfl, rfl, rfl, by decide +kernel, rfl, by decide +kernel, by decide +kernel⟩
theorem scOne : FnScope ["self", "some"] ["self", "some"] (defScope (sM 3)) := ⟨rfl, rfl, rfl, by decide +kernel, rfl, by decide +kernel, by decide +kernel⟩
theorem scGo : FnScope ["self", "lexeme"] ["self"] (defScope (sM 4)) := ⟨rfl, rfl, rfl, by decide +kernel, rfl, by decide +kernel, by decide +kernel⟩
theorem scNeed : FnScope ["self", "is_right"] ["self", "is_right"] (defScope (sM 5)) := ⟨rfl, rfl, rfl, by decide +kernel, rfl, by decide +kernel, by decide +kernel⟩
theorem scTake : FnScope ["self", "lexeme"] ["self", "lexeme"] (defScope (sM 6)) := ⟨rfl, rfl, rfl, by decide +kernel, rfl, by decide +kernel, by decide +kernel⟩
theorem scHas : FnScope ["self", "lexeme", "is_there"] ["self", "lexeme"] (defScope (sM 7)) := ⟨rfl, rfl, rfl, by decide +kernel, rfl, by decide +kernel, by decide +kernel⟩
theorem scName : FnScope ["self"] ["self"] (defScope (sM 8)) := ⟨rfl, rfl, rfl, by decide +kernel, rfl, by decide +kernel, by decide +kernel⟩
theorem scFin : FnScope ["self"] ["self"] (defScope (sM 9)) := ⟨rfl, rfl, rfl, by decide +kernel, rfl, by decide +kernel, by decide +kernel⟩
theorem ok_what (T : ClTx K mg C) : FnOk P w K mg base CX0 1 T.mWhat.f T.mWhat.fd ["self"] (spWhat C) := by
  refine T.mWhat.F.ok scWhat (fun vs H Q E h => ?_) (fun cdv A outer s H vs Q E hr h => ?_)
  · obtain ⟨t, x, l, rfl, _⟩ := h
    rfl
  obtain ⟨t, x, l, rfl, ⟨⟨dx, q, hx, hq⟩, _⟩, k⟩ := h
  refine ⟨_, pss_one (ps_ret (pe_ix ix_tup (pe_fld (pv 0) rfl) pe_int (fun _ _ => rfl))), ?_⟩
  exact ⟨_, rfl, x, C, dx, _, _, rfl, hx, T.cl, T.nN, lfs_now t q, q, _, 0, _, rfl, rfl, SqT.of hq, atI_nat (j := 0) rfl, k⟩
theorem ok_next (T : ClTx K mg C) : FnOk P w K mg base CX0 1 T.mNext.f T.mNext.fd ["self", "lexeme"] (spNext C) := by
  refine T.mNext.F.ok scNext (fun vs H Q E h => ?_) (fun cdv A outer s H vs Q E hr h => ?_)
  · obtain ⟨t, x, l, z, rfl, _⟩ := h
    rfl
  obtain ⟨t, x, l, z, rfl, ⟨⟨dx, q, hx, hq⟩, _⟩, k⟩ := h
  refine ⟨_, pss_one (ps_ret (pe_cmpR op_eq (pe_ix ix_tup (pe_fld (pv 0) rfl) pe_int (fun _ _ => rfl)) (pv 1) (nomark _))), ?_⟩
  refine ⟨_, rfl, x, C, dx, _, _, rfl, hx, T.cl, T.nN, lfs_now t q, q, _, 1, _, rfl, rfl, SqT.of hq, atI_nat (j := 1) rfl, _, rfl, rfl, ?_⟩
  have e : decide (V.str (S l.tx) = V.str z) = decide (S l.tx = z) := decide_eq_decide.mpr ⟨fun h => V.str.inj h, fun h => congrArg V.str h⟩
  show Q (.bl (decide (V.str (S l.tx) = V.str z))) H
  rw [e]
  exact k
theorem ok_one (T : ClTx K mg C) : FnOk P w K mg base CX0 1 T.mOne.f T.mOne.fd ["self", "some"] (spOneOf K C) := by
  refine T.mOne.F.ok scOne (fun vs H Q E h => ?_) (fun cdv A outer s H vs Q E hr h => ?_)
  · obtain ⟨t, x, l, p, zs, rfl, _⟩ := h
    rfl
  obtain ⟨t, x, l, p, zs, rfl, ⟨⟨dx, q, hx, hq⟩, _⟩, hp, k⟩ := h
  refine ⟨_, pss_one (ps_ret (pe_and (pe_cmpR op_in_seq (pe_ix ix_tup (pe_fld (pv 0) rfl) pe_int (fun _ _ => rfl)) (pe_tup (pa_cons pe_str (pa_cons pe_str pa_nil))) rfl)
    (pe_one (pe_cmpR op_in_seq (pe_ix ix_tup (pe_fld (pv 0) rfl) pe_int (fun _ _ => rfl)) (pv 1) rfl)))), ?_⟩
  refine ⟨_, rfl, x, C, dx, _, _, rfl, hx, T.cl, T.nN, lfs_now t q, q, _, 0, _, rfl, rfl, SqT.of hq, atI_nat (j := 0) rfl, (by show 2 ≤ sizeLine; decide), fun y hy => ?_⟩
  have g1 : Same H (upd H y (.tup [.str "sign", .str "keyword"])) := same_up hy _
  refine ⟨y, [.str "sign", .str "keyword"], rfl, .inr (SqT.of upd_same), rfl, rfl, _, rfl, ?_⟩
  have e1 : inV (.str (kdS l.kd)) [.str "sign", .str "keyword"] = (l.kd == .sign || l.kd == .keyword) := by
    rw [show ([.str "sign", .str "keyword"] : List V) = (["sign", "keyword"] : List Str).map V.str from rfl, inV_strs]
    cases l.kd <;> decide +kernel
  show if inV (.str (kdS l.kd)) [.str "sign", .str "keyword"] = true then _ else _
  rw [e1]
  by_cases c : (l.kd == .sign || l.kd == .keyword) = true
  · rw [c]
    refine iteT ?_
    refine ⟨_, rfl, x, C, dx, _, _, rfl, g1 _ _ hx, T.cl, T.nN, lfs_now t q, q, _, 1, _, rfl, rfl, SqT.of (g1 _ _ hq), atI_nat (j := 1) rfl, _, rfl, p, zs.map V.str, rfl, .inr ?_, rfl, flat_strs _, ?_⟩
    · rcases hp with (h | ⟨o, h⟩) | h
      · exact .inl (.inl (g1 _ _ h))
      · exact .inl (.inr ⟨o, g1 _ _ h⟩)
      · exact .inr h
    · rw [inV_strs]
      have z := k _ g1
      unfold oneOf at z
      rw [c, Bool.true_and] at z
      exact z
  · have c' := Bool.eq_false_iff.mpr c
    rw [c']
    refine iteF ?_
    have z := k _ g1
    unfold oneOf at z
    rw [c', Bool.false_and] at z
    exact z
theorem ok_go (L : LxTx K mg) (T : ClTx K mg C) : FnOk P w K mg base CX0 4 T.mGo.f T.mGo.fd ["self"] (spGo C) := by
  have GL : FnOk P w K mg base CX0 3 L.dLx.f L.dLx.fd ["text", "place"] spLexAt := ok_lexAt L
  refine T.mGo.F.ok scGo (fun vs H Q E h => ?_) (fun cdv A outer s H vs Q E hr h => ?_)
  · obtain ⟨t, x, l, rfl, _⟩ := h
    rfl
  obtain ⟨t, x, l, rfl, ⟨⟨dx, q, hx, hq⟩, ok⟩, hl, k⟩ := h
  have nd := scGo.nd
  refine ⟨_, pss_cons (ps_set (i := 1) nd rfl (.inl rfl) (pe_ix ix_tup (pe_fld (pv 0) rfl) pe_int (fun _ _ => rfl)))
    (pss_cons (ps_fld (pv 0) (pe_call GL hr rfl L.dLx.g L.dLx.F.kp L.dLx.b .nil pass0 (pa_cons (pe_fld (pv 0) rfl) (pa_cons (pe_op op_add (pe_ix ix_tup (pe_fld (pv 0) rfl) pe_int (fun _ _ => rfl))
      (pe_callB call_len_str (by rfl) L.ml PySem.boot_len (pa_cons (pv 1) pa_nil))) pa_nil))) rfl)
    (pss_one (ps_ret (pv 1)))), ?_⟩
  refine ⟨_, rfl, x, C, dx, _, _, rfl, hx, T.cl, T.nN, lfs_now t q, q, _, 1, _, rfl, rfl, SqT.of hq, atI_nat (j := 1) rfl, ?_⟩
  have fitl : (S l.tx).length ≤ sizeLine := S_fits (by have := ok.le; omega)
  refine ⟨_, rfl, x, C, dx, _, _, rfl, hx, T.cl, T.nT, lfs_text t q, _, rfl, x, C, dx, _, _, rfl, hx, T.cl, T.nN, lfs_now t q, q, _, 2, _, rfl, rfl, SqT.of hq, atI_nat (j := 2) rfl, _, rfl, _, rfl, fitl, (l.pl : Nat), ((S l.tx).length : Nat), rfl, rfl, ?_⟩
  rw [S_len]
  refine ⟨t, l.pl + l.tx.length, rfl, hl, ok.le, fun r H1 s1 hr1 => ?_⟩
  refine ⟨_, rfl, x, C, dx, _, rfl, s1 _ _ hx, T.cl, T.nN, (by show 2 < 1000; decide), ?_⟩
  rw [lfs_put]
  have nr : r ≠ x := ne_of hr1 (s1 _ _ hx) (fun z => by cases z)
  refine ⟨_, rfl, k _ (fun b o e n => ?_) ⟨⟨dx, r, upd_same, by rw [upd_ne nr]; exact hr1⟩, nx_ok t l⟩⟩
  rw [upd_ne n]
  exact s1 _ _ e
theorem ok_lexer (L : LxTx K mg) (T : ClTx K mg C) : FnOk P w K mg base CX0 4 T.mInit.f T.mInit.fd ["self", "text"] (spLexer C) := by
  have GL : FnOk P w K mg base CX0 3 L.dLx.f L.dLx.fd ["text", "place"] spLexAt := ok_lexAt L
  refine T.mInit.F.ok scInit (fun vs H Q E h => ?_) (fun cdv A outer s H vs Q E hr h => ?_)
  · obtain ⟨t, x, dx, rfl, _⟩ := h
    rfl
  obtain ⟨t, x, dx, rfl, hx, hl, k⟩ := h
  have nd := scInit.nd
  refine ⟨_, pss_cons (ps_fld (pv 0) (pv 1) rfl) (pss_one (ps_fld (pv 0) (pe_call GL hr rfl L.dLx.g L.dLx.F.kp L.dLx.b .nil pass0 (pa_cons (pv 1) (pa_cons pe_int pa_nil))) rfl)), ?_⟩
  refine ⟨_, rfl, _, rfl, x, C, dx, _, rfl, hx, T.cl, T.nT, (by show 0 < 1000; decide), ?_⟩
  refine ⟨_, rfl, t, 0, rfl, hl, Nat.zero_le _, fun r H1 s1 hr1 => ?_⟩
  have hx1 := s1 _ _ (upd_same (H := H) (a := x) (o := .ins C dx (putF "text" (.str (S t)) [])))
  refine ⟨_, rfl, x, C, dx, _, rfl, hx1, T.cl, T.nN, (by show 1 < 1000; decide), ?_⟩
  rw [lfs_put1]
  have nr : r ≠ x := ne_of hr1 hx1 (fun z => by cases z)
  refine k _ (fun b o e n => ?_) ⟨⟨dx, r, upd_same, by rw [upd_ne nr]; exact hr1⟩, lexAt_ok t 0⟩
  rw [upd_ne n]
  refine s1 _ _ ?_
  rw [upd_ne n]
  exact e
/-- what a def may let out reaches what its caller wants -/
theorem passE {qual : Str} {N : List Str} {scope : Scope} {f : Addr} {cd : Value} {A : Around} {outer : List Env} {s : Shared} {H : Hp} {E : XK} : Passes (L2.CX P w) (cxOf (L2.CX P w) P w K mg base N qual scope f cd A outer s H E) E :=
  passes_call (takes_of (E := E) rfl rfl rfl rfl) fun _ _ _ _ h => h
theorem upd_del {H1 : Hp} {a d : Addr} {o1 o2 o3 o : HO} (ha : H1 a = none) (h : d ≠ a) : upd (del (upd (upd (upd H1 a o1) d o2) a o3) a) d o = upd H1 d o := by
  funext b
  by_cases h1 : b = d
  · rw [h1, upd_same, upd_same]
  · rw [upd_ne h1, upd_ne h1]
    by_cases h2 : b = a
    · rw [h2, del_same, ha]
    · rw [del_ne h2, upd_ne h2, upd_ne h1, upd_ne h2]
theorem ok_need {fdI : FuncData} (T : ClTx K mg C) (B : BadTx P K mg CB f1 cc cda) (hfd : ∃ oc od osl, K.lookup f1 = some ⟨oc, od, .func fdI, osl⟩) (bI : Binds K fdI ["self", "place"] []) :
    FnOk P w K mg base (L2.CX P w) 3 T.mNeed.f T.mNeed.fd ["self", "is_right"] (spNeed C CB) := by
  have GI : FnOk P w K mg base CX0 1 f1 fdI ["self", "place"] (spBadInit CB) := ok_badInit B hfd
  refine T.mNeed.F.okX scNeed (fun vs H Q E h => ?_) (fun cdv A outer s H vs Q E hr h => ?_)
  · obtain ⟨t, x, l, b, rfl, _⟩ := h
    rfl
  obtain ⟨t, x, l, b, rfl, ⟨⟨dx, q, hx, hq⟩, ok⟩, k1, k2⟩ := h
  have hl : (pe_int : PE (cxOf (L2.CX P w) P w K mg base ["self", "is_right"] "Lexer.need" (defScope (sM 5)) T.mNeed.f cdv A outer s H E) (.Constant (.int 0) 0 ⟨0, 0, 0, 0⟩) (tC (.int 0))) = pe_int := rfl
  refine ⟨_, pss_one (ps_if (pt_not (pt_val (pv 1))) (pss_one (ps_raise rfl (takes_of (E := E) rfl rfl rfl rfl) (pmk_oex B.oex B.iC B.tI GI hr bI .nil pass0 rfl B.gC (pa_cons (pe_ix ix_tup (pe_fld (pv 0) rfl) pe_int (fun _ _ => rfl)) pa_nil)))) pss_nil), ?_⟩
  refine ⟨_, rfl, b, rfl, ?_⟩
  cases b with
  | true => exact iteF (k1 rfl)
  | false =>
    refine iteT ?_
    refine ⟨_, rfl, x, C, dx, _, _, rfl, hx, T.cl, T.nN, lfs_now t q, q, _, 2, _, rfl, rfl, SqT.of hq, atI_nat (j := 2) rfl, (by show 1 ≤ 1000; decide), fun a ha => ?_⟩
    refine ⟨a, (l.pl : Nat), rfl, upd_same, fun d hd hda => ⟨rfl, d, [("place", .int (l.pl : Nat))], upd_same, ?_, ?_, ?_⟩⟩
    · rw [upd_ne hda, upd_same]
    · rw [upd_ne hda] at hd
      exact hd
    · rw [upd_ne hda] at hd
      rw [upd_del ha hda]
      exact k2 rfl _ d (Kp.same (same_up hd _)) upd_same
theorem ok_take {fdI : FuncData} (L : LxTx K mg) (T : ClTx K mg C) (B : BadTx P K mg CB f1 cc cda) (hfd : ∃ oc od osl, K.lookup f1 = some ⟨oc, od, .func fdI, osl⟩) (bI : Binds K fdI ["self", "place"] []) :
    FnOk P w K mg base (L2.CX P w) 5 T.mTake.f T.mTake.fd ["self", "lexeme"] (spTake C CB) := by
  have GN : FnOk P w K mg base (L2.CX P w) 3 T.mNeed.f T.mNeed.fd ["self", "is_right"] (spNeed C CB) := ok_need T B hfd bI
  have GX : FnOk P w K mg base CX0 1 T.mNext.f T.mNext.fd ["self", "lexeme"] (spNext C) := ok_next T
  have GG : FnOk P w K mg base CX0 4 T.mGo.f T.mGo.fd ["self"] (spGo C) := ok_go L T
  refine T.mTake.F.okX scTake (fun vs H Q E h => ?_) (fun cdv A outer s H vs Q E hr h => ?_)
  · obtain ⟨t, x, l, z, rfl, _⟩ := h
    rfl
  obtain ⟨t, x, l, z, rfl, h0, hl, k1, k2⟩ := h
  obtain ⟨⟨dx, q, hx, hq⟩, ok⟩ := id h0
  have hr3 : Room 3 _ := hr.mono (by decide)
  have hr1 : Room 1 _ := hr.mono (by decide)
  refine ⟨_, pss_cons (ps_expr (pe_meth (pv 0) T.cl T.mNeed.mt GN hr3 T.mNeed.b .nil passE (pa_cons (pe_meth (pv 0) T.cl T.mNext.mt GX hr1 T.mNext.b .nil pass0 (pa_cons (pv 1) pa_nil)) pa_nil)))
    (pss_one (ps_expr (pe_meth0 (pv 0) T.cl T.mGo.mt GG hr T.mGo.b .nil pass0))), ?_⟩
  refine ⟨_, rfl, x, dx, _, rfl, hx, lfs_no t q (by decide +kernel) (by decide +kernel), _, rfl, x, dx, _, rfl, hx, lfs_no t q (by decide +kernel) (by decide +kernel), _, rfl, t, x, l, z, rfl, h0, ?_⟩
  refine ⟨t, x, l, decide (S l.tx = z), rfl, h0, fun e => ?_, fun e => k2 (of_decide_eq_false e)⟩
  exact ⟨_, rfl, x, dx, _, rfl, hx, lfs_no t q (by decide +kernel) (by decide +kernel), t, x, l, rfl, h0, hl, fun H' kp hL => k1 (of_decide_eq_true e) H' kp hL⟩
theorem ok_has (L : LxTx K mg) (T : ClTx K mg C) : FnOk P w K mg base CX0 5 T.mHas.f T.mHas.fd ["self", "lexeme"] (spHas C) := by
  have GX : FnOk P w K mg base CX0 1 T.mNext.f T.mNext.fd ["self", "lexeme"] (spNext C) := ok_next T
  have GG : FnOk P w K mg base CX0 4 T.mGo.f T.mGo.fd ["self"] (spGo C) := ok_go L T
  refine T.mHas.F.ok scHas (fun vs H Q E h => ?_) (fun cdv A outer s H vs Q E hr h => ?_)
  · obtain ⟨t, x, l, z, rfl, _⟩ := h
    rfl
  obtain ⟨t, x, l, z, rfl, h0, hl, k1, k2⟩ := h
  obtain ⟨⟨dx, q, hx, hq⟩, ok⟩ := id h0
  have hr1 : Room 1 _ := hr.mono (by decide)
  have nd := scHas.nd
  refine ⟨_, pss_cons (ps_set (i := 2) nd rfl (.inl rfl) (pe_meth (pv 0) T.cl T.mNext.mt GX hr1 T.mNext.b .nil pass0 (pa_cons (pv 1) pa_nil)))
    (pss_cons (ps_if (pt_val (pv 2)) (pss_one (ps_expr (pe_meth0 (pv 0) T.cl T.mGo.mt GG hr T.mGo.b .nil pass0))) pss_nil) (pss_one (ps_ret (pv 2)))), ?_⟩
  refine ⟨_, rfl, x, dx, _, rfl, hx, lfs_no t q (by decide +kernel) (by decide +kernel), _, rfl, t, x, l, z, rfl, h0, ?_⟩
  refine ⟨_, rfl, _, rfl, ?_⟩
  by_cases e : S l.tx = z
  · rw [decide_eq_true e]
    refine iteT ?_
    exact ⟨_, rfl, x, dx, _, rfl, hx, lfs_no t q (by decide +kernel) (by decide +kernel), t, x, l, rfl, h0, hl, fun H' kp hL => ⟨_, rfl, k1 e H' kp hL⟩⟩
  · rw [decide_eq_false e]
    exact iteF ⟨_, rfl, k2 e⟩
theorem kd_name (l : Lx) : decide (V.str (kdS l.kd) = V.str ("name" : Str)) = decide (l.kd = .name) := by cases l.kd <;> decide +kernel
theorem kd_fin (l : Lx) : decide (V.str (kdS l.kd) = V.str ("end" : Str)) = decide (l.kd = .fin) := by cases l.kd <;> decide +kernel
theorem ok_name {fdI : FuncData} (L : LxTx K mg) (T : ClTx K mg C) (B : BadTx P K mg CB f1 cc cda) (hfd : ∃ oc od osl, K.lookup f1 = some ⟨oc, od, .func fdI, osl⟩) (bI : Binds K fdI ["self", "place"] []) :
    FnOk P w K mg base (L2.CX P w) 5 T.mName.f T.mName.fd ["self"] (spName C CB) := by
  have GN : FnOk P w K mg base (L2.CX P w) 3 T.mNeed.f T.mNeed.fd ["self", "is_right"] (spNeed C CB) := ok_need T B hfd bI
  have GG : FnOk P w K mg base CX0 4 T.mGo.f T.mGo.fd ["self"] (spGo C) := ok_go L T
  refine T.mName.F.okX scName (fun vs H Q E h => ?_) (fun cdv A outer s H vs Q E hr h => ?_)
  · obtain ⟨t, x, l, rfl, _⟩ := h
    rfl
  obtain ⟨t, x, l, rfl, h0, hl, k1, k2⟩ := h
  obtain ⟨⟨dx, q, hx, hq⟩, ok⟩ := id h0
  have hr3 : Room 3 _ := hr.mono (by decide)
  refine ⟨_, pss_cons (ps_expr (pe_meth (pv 0) T.cl T.mNeed.mt GN hr3 T.mNeed.b .nil passE (pa_cons (pe_cmpR op_eq (pe_ix ix_tup (pe_fld (pv 0) rfl) pe_int (fun _ _ => rfl)) pe_str (nomark _)) pa_nil)))
    (pss_one (ps_ret (pe_meth0 (pv 0) T.cl T.mGo.mt GG hr T.mGo.b .nil pass0))), ?_⟩
  refine ⟨_, rfl, x, dx, _, rfl, hx, lfs_no t q (by decide +kernel) (by decide +kernel), _, rfl, x, C, dx, _, _, rfl, hx, T.cl, T.nN, lfs_now t q, q, _, 0, _, rfl, rfl, SqT.of hq, atI_nat (j := 0) rfl, rfl, ?_⟩
  rw [kd_name]
  refine ⟨t, x, l, decide (l.kd = .name), rfl, h0, fun e => ?_, fun e => k2 (of_decide_eq_false e)⟩
  exact ⟨_, rfl, x, dx, _, rfl, hx, lfs_no t q (by decide +kernel) (by decide +kernel), t, x, l, rfl, h0, hl, fun H' kp hL => k1 (of_decide_eq_true e) H' kp hL⟩
theorem ok_finish {fdI : FuncData} (T : ClTx K mg C) (B : BadTx P K mg CB f1 cc cda) (hfd : ∃ oc od osl, K.lookup f1 = some ⟨oc, od, .func fdI, osl⟩) (bI : Binds K fdI ["self", "place"] []) :
    FnOk P w K mg base (L2.CX P w) 4 T.mFin.f T.mFin.fd ["self"] (spFinish C CB) := by
  have GN : FnOk P w K mg base (L2.CX P w) 3 T.mNeed.f T.mNeed.fd ["self", "is_right"] (spNeed C CB) := ok_need T B hfd bI
  refine T.mFin.F.okX scFin (fun vs H Q E h => ?_) (fun cdv A outer s H vs Q E hr h => ?_)
  · obtain ⟨t, x, l, rfl, _⟩ := h
    rfl
  obtain ⟨t, x, l, rfl, h0, k1, k2⟩ := h
  obtain ⟨⟨dx, q, hx, hq⟩, ok⟩ := id h0
  refine ⟨_, pss_one (ps_expr (pe_meth (pv 0) T.cl T.mNeed.mt GN hr T.mNeed.b .nil passE (pa_cons (pe_cmpR op_eq (pe_ix ix_tup (pe_fld (pv 0) rfl) pe_int (fun _ _ => rfl)) pe_str (nomark _)) pa_nil))), ?_⟩
  refine ⟨_, rfl, x, dx, _, rfl, hx, lfs_no t q (by decide +kernel) (by decide +kernel), _, rfl, x, C, dx, _, _, rfl, hx, T.cl, T.nN, lfs_now t q, q, _, 0, _, rfl, rfl, SqT.of hq, atI_nat (j := 0) rfl, rfl, ?_⟩
  rw [kd_fin]
  exact ⟨t, x, l, decide (l.kd = .fin), rfl, h0, fun e => k1 (of_decide_eq_true e), fun e => k2 (of_decide_eq_false e)⟩
end
end K04
end

section
set_option Elab.async false
set_option maxRecDepth 100000
set_option maxHeartbeats 4000000
set_option pp.maxSteps 2000
/-! K7: where a parser stands: the forms' stack, the lexer, the way to the end; each call of a lexer's method and of a def by it. -/
namespace K04
open PySem L2 PyProof.Rows
/-! ### rows -/
def RowZ (A z : Str) (b : List Str) : Prop := (rowsOf A).map (fun rows => pickRow rows z) = some (z :: b)
instance {A z : Str} {b : List Str} : Decidable (RowZ A z b) := by unfold RowZ; infer_instance
def headsOf (rows : List Row) : List Str := rows.flatMap fun r => r.1.getD []
def lastOf : List Row → List Str
  | [] => []
  | [r] => r.2
  | _ :: r :: l => lastOf (r :: l)
def lastNone : List Row → Bool
  | [] => false
  | [r] => r.1 == none
  | p :: r :: l => p.1.isSome && lastNone (r :: l)
theorem pick_else {x : Str} : ∀ rows : List Row, lastNone rows = true → x ∉ headsOf rows → pickRow rows x = lastOf rows
  | [], h, _ => by cases h
  | [r], h, _ => by
    have e : r.1 = none := by simpa [lastNone] using h
    unfold pickRow
    rw [List.find?_cons, show rowFits x r = true by unfold rowFits; rw [e]]
    rfl
  | p :: r :: l, h, hx => by
    have h' : p.1.isSome = true ∧ lastNone (r :: l) = true := by simpa [lastNone] using h
    obtain ⟨hs, e⟩ := Option.isSome_iff_exists.mp h'.1
    have h1 : x ∉ hs := fun m => hx (by unfold headsOf; rw [List.flatMap_cons, e]; exact List.mem_append_left _ m)
    have h2 : x ∉ headsOf (r :: l) := fun m => hx (by unfold headsOf at m ⊢; rw [List.flatMap_cons]; exact List.mem_append_right _ m)
    have ih := pick_else (r :: l) h'.2 h2
    unfold pickRow at ih ⊢
    rw [List.find?_cons, show rowFits x p = false by
      unfold rowFits
      rw [e]
      cases q : hs.contains x with
      | false => exact q
      | true => exact absurd (List.contains_iff_mem.mp q) h1]
    exact ih
def RowE (A : Str) (hs b : List Str) : Prop := (rowsOf A).map (fun rows => (headsOf rows, lastOf rows, lastNone rows)) = some (hs, b, true)
instance {A : Str} {hs b : List Str} : Decidable (RowE A hs b) := by unfold RowE; infer_instance
/-- every head of the list leads to the row -/
def RowA (A : Str) (hs b : List Str) : Prop := (hs.all fun z => decide ((rowsOf A).map (fun rows => pickRow rows z) = some b)) = true
instance {A : Str} {hs b : List Str} : Decidable (RowA A hs b) := by unfold RowA; infer_instance
section
variable {t : List Nat} {r : Option Nat} {A z : Str} {st b hs : List Str} {l : Lx}
theorem Rn.rowZ (h : Rn t r (A :: st) l) (e : RowZ A z b) (hx : S l.tx = z) : Rn t r (z :: b ++ st) l := by
  unfold RowZ at e
  cases q : rowsOf A with
  | none => rw [q] at e; cases e
  | some rows =>
    rw [q] at e
    exact h.row q (by rw [hx]; exact Option.some.inj e)
theorem Rn.rowE (h : Rn t r (A :: st) l) (e : RowE A hs b) (hx : S l.tx ∉ hs) : Rn t r (b ++ st) l := by
  unfold RowE at e
  cases q : rowsOf A with
  | none => rw [q] at e; cases e
  | some rows =>
    rw [q] at e
    have e' := Option.some.inj e
    have e1 : headsOf rows = hs := congrArg (·.1) e'
    have e2 : lastOf rows = b := congrArg (·.2.1) e'
    have e3 : lastNone rows = true := congrArg (·.2.2) e'
    exact h.row q (by rw [← e2]; exact pick_else rows e3 (by rw [e1]; exact hx))
theorem Rn.rowA (h : Rn t r (A :: st) l) (e : RowA A hs b) (hx : S l.tx ∈ hs) : Rn t r (b ++ st) l := by
  have e' := of_decide_eq_true (List.all_eq_true.mp e _ hx)
  cases q : rowsOf A with
  | none => rw [q] at e'; cases e'
  | some rows =>
    rw [q] at e'
    exact h.row q (Option.some.inj e')
/-! ### signs and keywords of the forms -/
structure Tok (z : Str) : Prop where
  no : rowsOf z = none
  np : z ≠ "NUMPART"
  f : ∀ t l, LxOk t l → fitsB l z = decide (S l.tx = z)
theorem tok_all : ((SGT ++ KWS).all fun z => decide (rowsOf z = none) && decide (z ≠ "NUMPART") && decide (z ≠ "NAME") && decide (z ≠ "NUMERAL") && decide (z ≠ "END") && decide (z ≠ "ANY")) = true := by decide +kernel
theorem tok_of (h : z ∈ SGT ++ KWS) : Tok z := by
  have q := List.all_eq_true.mp tok_all _ h
  simp only [Bool.and_eq_true, decide_eq_true_eq] at q
  obtain ⟨⟨⟨⟨⟨q1, q2⟩, q3⟩, q4⟩, q5⟩, q6⟩ := q
  refine ⟨q1, q2, fun t l ok => ?_⟩
  unfold fitsB
  rw [if_neg q3, if_neg q4, if_neg q5, if_neg q2, if_neg q6]
  by_cases e : S l.tx = z
  · rw [decide_eq_true e, Bool.and_true]
    rcases List.mem_append.mp h with m | m
    · rw [ok.sg (by rw [e]; exact m)]
      rfl
    · rw [ok.kw (by rw [e]; exact m)]
      rfl
  · rw [decide_eq_false e, Bool.and_false]
theorem Rn.tok (h : Rn t r (z :: st) l) (k : Tok z) (ok : LxOk t l) (hx : S l.tx = z) : Rn t r st (nx t l) :=
  h.eat k.no k.np (by rw [k.f t l ok]; exact decide_eq_true hx)
theorem Rn.tokNo (h : Rn t r (z :: st) l) (k : Tok z) (ok : LxOk t l) (hx : S l.tx ≠ z) : r = some l.pl :=
  h.not k.no k.np (by rw [k.f t l ok]; exact decide_eq_false hx)
theorem fit_name (l : Lx) : fitsB l "NAME" = decide (l.kd = .name) := by
  unfold fitsB
  rw [if_pos rfl]
  cases l.kd <;> rfl
theorem fit_end (l : Lx) : fitsB l "END" = decide (l.kd = .fin) := by
  unfold fitsB
  rw [if_neg (by decide +kernel), if_neg (by decide +kernel), if_pos rfl]
  cases l.kd <;> rfl
theorem fit_any (l : Lx) : fitsB l "ANY" = !l.tx.isEmpty := by
  unfold fitsB
  rw [if_neg (by decide +kernel), if_neg (by decide +kernel), if_neg (by decide +kernel), if_neg (by decide +kernel), if_pos rfl]
theorem Rn.name (h : Rn t r ("NAME" :: st) l) (hx : l.kd = .name) : Rn t r st (nx t l) := h.eat (by decide +kernel) (by decide +kernel) (by rw [fit_name]; exact decide_eq_true hx)
theorem Rn.nameNo (h : Rn t r ("NAME" :: st) l) (hx : l.kd ≠ .name) : r = some l.pl := h.not (by decide +kernel) (by decide +kernel) (by rw [fit_name]; exact decide_eq_false hx)
theorem Rn.ende (h : Rn t r ("END" :: st) l) (hx : l.kd = .fin) : Rn t r st (nx t l) := h.eat (by decide +kernel) (by decide +kernel) (by rw [fit_end]; exact decide_eq_true hx)
theorem Rn.endNo (h : Rn t r ("END" :: st) l) (hx : l.kd ≠ .fin) : r = some l.pl := h.not (by decide +kernel) (by decide +kernel) (by rw [fit_end]; exact decide_eq_false hx)
theorem Rn.any (h : Rn t r ("ANY" :: st) l) (hx : l.tx ≠ []) : Rn t r st (nx t l) := h.eat (by decide +kernel) (by decide +kernel) (by
  rw [fit_any]
  cases q : l.tx with
  | nil => exact absurd q hx
  | cons _ _ => rfl)
end
/-! ### where a parser stands -/
structure Gh where
  C : Addr
  CB : Addr
  t : List Nat
  r : Option Nat
  x : Addr
  H0 : Hp
  E : XK
structure Cu (g : Gh) (l : Lx) (m j : Nat) (st : List Str) (H : Hp) : Prop where
  la : LAt g.C g.t H g.x l
  rn : Rn g.t g.r st l
  ne : nest g.t l < m
  pg : j ≤ l.pl
  kp : Kp g.x g.H0 H
  hz : ∀ p, g.r = some p → Rz g.CB g.x g.H0 g.E p
  hl : g.t.length ≤ 1000000
def cN (z : Str) : Nat := z.cps.toList.countP isN
section
variable {g : Gh} {l l' : Lx} {m m' j j' : Nat} {st st' : List Str} {H H' : Hp} {z A : Str} {b hs : List Str}
theorem Cu.ok (c : Cu g l m j st H) : LxOk g.t l := c.la.ok
theorem Cu.row (c : Cu g l m j st H) (h : Rn g.t g.r st' l) : Cu g l m j st' H := ⟨c.la, h, c.ne, c.pg, c.kp, c.hz, c.hl⟩
theorem Cu.rowZ (c : Cu g l m j (A :: st) H) (e : RowZ A z b) (hx : S l.tx = z) : Cu g l m j (z :: b ++ st) H := c.row (c.rn.rowZ e hx)
theorem Cu.rowE (c : Cu g l m j (A :: st) H) (e : RowE A hs b) (hx : S l.tx ∉ hs) : Cu g l m j (b ++ st) H := c.row (c.rn.rowE e hx)
theorem Cu.rowA (c : Cu g l m j (A :: st) H) (e : RowA A hs b) (hx : S l.tx ∈ hs) : Cu g l m j (b ++ st) H := c.row (c.rn.rowA e hx)
/-- a row that is the only one -/
theorem Cu.row1 (c : Cu g l m j (A :: st) H) (e : RowE A [] b) : Cu g l m j (b ++ st) H := c.rowE e List.not_mem_nil
theorem Cu.same (c : Cu g l m j st H) (s : Same H H') : Cu g l m j st H' := ⟨c.la.same s, c.rn, c.ne, c.pg, c.kp.trans (Kp.same s), c.hz, c.hl⟩
theorem Cu.up (c : Cu g l m j st H) {p : Addr} (h : H p = none) (o : HO) : Cu g l m j st (upd H p o) := c.same (same_up h o)
/-- a list of ours is written -/
theorem Cu.set (c : Cu g l m j st H) {p : Addr} {xs : List V} (h : H p = some (.lst xs)) (h0 : g.H0 p = none) (o : HO) : Cu g l m j st (upd H p o) :=
  ⟨c.la.set (fun dx fs z => by rw [h] at z; cases z) (fun ys z => by rw [h] at z; cases z), c.rn, c.ne, c.pg, c.kp.set h0 o, c.hz, c.hl⟩
theorem tx_ne (hx : S l.tx = z) (hz : z ≠ S []) : l.tx ≠ [] := fun e => hz (by rw [← hx, e])
/-- behind a lexeme taken -/
theorem Cu.eat (c : Cu g l m j st H) (k : Kp g.x H H') (hL : LAt g.C g.t H' g.x (nx g.t l)) (h : Rn g.t g.r st' (nx g.t l)) (hx : l.tx ≠ []) : Cu g (nx g.t l) (m - l.tx.countP isN) (j + 1) st' H' := by
  have h1 := nest_nx c.ok
  have h2 := nx_ge c.ok
  have h3 := c.ne
  have h4 := c.pg
  have h5 : 0 < l.tx.length := List.length_pos_iff.mpr hx
  exact ⟨hL, h, by omega, by omega, c.kp.trans k, c.hz, c.hl⟩
theorem Cu.weak (c : Cu g l m j st H) (hm : m ≤ m') (hj : j' ≤ j) : Cu g l m' j' st H := ⟨c.la, c.rn, Nat.lt_of_lt_of_le c.ne hm, Nat.le_trans hj c.pg, c.kp, c.hz, c.hl⟩
theorem Cu.tok (c : Cu g l m j (z :: st) H) (tk : Tok z) (hz : z ≠ S []) (hx : S l.tx = z) (k : Kp g.x H H') (hL : LAt g.C g.t H' g.x (nx g.t l)) : Cu g (nx g.t l) (m - cN z) (j + 1) st H' := by
  have q := c.eat k hL (c.rn.tok tk c.ok hx) (tx_ne hx hz)
  have e : l.tx.countP isN = cN z := by unfold cN; rw [← hx, S_codes]
  rw [e] at q
  exact q
theorem Cu.rz (c : Cu g l m j st H) {p : Nat} (h : g.r = some p) : Rz g.CB g.x H g.E p := (c.hz p h).kp c.kp
/-- the lexer's own object -/
theorem Cu.ins (c : Cu g l m j st H) : ∃ dx q, H g.x = some (.ins g.C dx (lfs g.t q)) ∧ H q = some (.tup (LexTup l)) := c.la.ex
end
/-- some tuple -/
def IsT (v : V) (H : Hp) : Prop := ∃ p xs, v = .ref p ∧ H p = some (.tup xs)
theorem IsT.kp {C x : Addr} {t : List Nat} {l : Lx} {v : V} {H H' : Hp} (h : IsT v H) (hL : LAt C t H x l) (k : Kp x H H') : IsT v H' := by
  obtain ⟨p, xs, rfl, e⟩ := h
  obtain ⟨⟨dx, q, hx, _⟩, _⟩ := hL
  exact ⟨p, xs, rfl, k _ _ e (ne_of e hx (fun z => by cases z))⟩
theorem lst_kp {C x p : Addr} {t : List Nat} {l : Lx} {xs : List V} {H H' : Hp} (h : H p = some (.lst xs)) (hL : LAt C t H x l) (k : Kp x H H') : H' p = some (.lst xs) := by
  obtain ⟨⟨dx, q, hx, _⟩, _⟩ := hL
  exact k _ _ h (ne_of h hx (fun z => by cases z))
/-- the promise of a parser def: from syms ++ st on to st, d lexemes at least -/
def spP (C CB : Addr) (ex : List V) (syms : List Str) (n d : Nat) : Sp := fun vs H Q E => ∃ t r x l st, vs = .ref x :: ex ∧ LAt C t H x l ∧ t.length ≤ 1000000 ∧ Rn t r (syms ++ st) l ∧ nest t l < n ∧ (∀ p, r = some p → Rz CB x H E p) ∧
  ∀ v H' l', IsT v H' → Kp x H H' → LAt C t H' x l' → Rn t r st l' → l.pl + d ≤ l'.pl → Q v H'
section
variable {g : Gh} {l : Lx} {m j n d : Nat} {st syms : List Str} {H : Hp} {σ : L2.St} {Q : VK} {z : Str}
theorem rd_take (hσ : σ[0]? = some (some (.ref g.x))) (c : Cu g l m j (z :: st) H) (tk : Tok z) (hz : z ≠ S []) (k : ∀ H', S l.tx = z → Kp g.x H H' → Cu g (nx g.t l) (m - cN z) (j + 1) st H' → Q .non H') :
    tMeth g.C "take" (spTake g.C g.CB) [] g.E (tVar 0) (tCons (tC (.str z)) tNil) σ H Q := by
  obtain ⟨dx, q, hx, _⟩ := c.ins
  exact ⟨_, hσ, g.x, dx, _, rfl, hx, lfs_no g.t q (by decide +kernel) (by decide +kernel), g.t, g.x, l, z, rfl, c.la, c.hl, fun e H' kp hL => k H' e kp (c.tok tk hz e kp hL), fun e => c.rz (c.rn.tokNo tk c.ok e)⟩
theorem rd_name (hσ : σ[0]? = some (some (.ref g.x))) (c : Cu g l m j ("NAME" :: st) H) (k : ∀ H', l.kd = .name → Kp g.x H H' → Cu g (nx g.t l) m (j + 1) st H' → Q (.str (S l.tx)) H') :
    tMeth g.C "name" (spName g.C g.CB) [] g.E (tVar 0) tNil σ H Q := by
  obtain ⟨dx, q, hx, _⟩ := c.ins
  refine ⟨_, hσ, g.x, dx, _, rfl, hx, lfs_no g.t q (by decide +kernel) (by decide +kernel), g.t, g.x, l, rfl, c.la, c.hl, fun e H' kp hL => k H' e kp ?_, fun e => c.rz (c.rn.nameNo e)⟩
  have hne : l.tx ≠ [] := fun z => by
    have r := c.ok.rl
    rw [e, z] at r
    cases r
  exact (c.eat kp hL (c.rn.name e) hne).weak (Nat.sub_le _ _) (Nat.le_refl _)
theorem rd_has {E : XK} (hσ : σ[0]? = some (some (.ref g.x))) (c : Cu g l m j st H) (kT : S l.tx = z → ∀ H', Kp g.x H H' → LAt g.C g.t H' g.x (nx g.t l) → Q (.bl true) H') (kF : S l.tx ≠ z → Q (.bl false) H) :
    tMeth g.C "has" (spHas g.C) [] E (tVar 0) (tCons (tC (.str z)) tNil) σ H Q := by
  obtain ⟨dx, q, hx, _⟩ := c.ins
  exact ⟨_, hσ, g.x, dx, _, rfl, hx, lfs_no g.t q (by decide +kernel) (by decide +kernel), g.t, g.x, l, z, rfl, c.la, c.hl, kT, kF⟩
/-- has, where a row begins with it -/
theorem rd_hasR {E : XK} {A : Str} {b : List Str} (hσ : σ[0]? = some (some (.ref g.x))) (c : Cu g l m j (A :: st) H) (e : RowZ A z b) (tk : Tok z) (hz : z ≠ S []) (kT : ∀ H', S l.tx = z → Kp g.x H H' → Cu g (nx g.t l) (m - cN z) (j + 1) (b ++ st) H' → Q (.bl true) H') (kF : S l.tx ≠ z → Q (.bl false) H) :
    tMeth g.C "has" (spHas g.C) [] E (tVar 0) (tCons (tC (.str z)) tNil) σ H Q :=
  rd_has hσ c (fun hx H' kp hL => kT H' hx kp ((c.rowZ e hx).tok tk hz hx kp hL)) kF
theorem rd_next {E : XK} (hσ : σ[0]? = some (some (.ref g.x))) (c : Cu g l m j st H) (k : Q (.bl (decide (S l.tx = z))) H) :
    tMeth g.C "is_next" (spNext g.C) [] E (tVar 0) (tCons (tC (.str z)) tNil) σ H Q := by
  obtain ⟨dx, q, hx, _⟩ := c.ins
  exact ⟨_, hσ, g.x, dx, _, rfl, hx, lfs_no g.t q (by decide +kernel) (by decide +kernel), g.t, g.x, l, z, rfl, c.la, k⟩
theorem rd_what {E : XK} (hσ : σ[0]? = some (some (.ref g.x))) (c : Cu g l m j st H) (k : Q (.str (kdS l.kd)) H) : tMeth g.C "what" (spWhat g.C) [] E (tVar 0) tNil σ H Q := by
  obtain ⟨dx, q, hx, _⟩ := c.ins
  exact ⟨_, hσ, g.x, dx, _, rfl, hx, lfs_no g.t q (by decide +kernel) (by decide +kernel), g.t, g.x, l, rfl, c.la, k⟩
theorem rd_go {E : XK} (hσ : σ[0]? = some (some (.ref g.x))) (c : Cu g l m j st H) (k : ∀ H', Kp g.x H H' → LAt g.C g.t H' g.x (nx g.t l) → Q (.str (S l.tx)) H') : tMeth g.C "go" (spGo g.C) [] E (tVar 0) tNil σ H Q := by
  obtain ⟨dx, q, hx, _⟩ := c.ins
  exact ⟨_, hσ, g.x, dx, _, rfl, hx, lfs_no g.t q (by decide +kernel) (by decide +kernel), g.t, g.x, l, rfl, c.la, c.hl, k⟩
/-- a call of a parser def -/
theorem rd_callX {ex : List V} {ta : TA} (hσ : σ[0]? = some (some (.ref g.x))) (c : Cu g l m j (syms ++ st) H) (hm : m ≤ n) (hta : ∀ Q' : List V → Hp → Prop, Q' ex H → ta σ H Q') (k : ∀ v H' l', IsT v H' → Kp g.x H H' → Cu g l' m (j + d) st H' → Q v H') :
    tCall (spP g.C g.CB ex syms n d) [] g.E (tCons (tVar 0) ta) σ H Q := by
  refine ⟨_, hσ, hta _ ?_⟩
  show spP g.C g.CB ex syms n d (V.ref g.x :: ex ++ []) H Q g.E
  rw [List.append_nil]
  refine ⟨g.t, g.r, g.x, l, st, rfl, c.la, c.hl, c.rn, Nat.lt_of_lt_of_le c.ne hm, fun p h => c.rz h, fun v H' l' iv kp hL hr hp => k v H' l' iv kp ?_⟩
  have h1 : nest g.t l' ≤ nest g.t l := nest_le (by omega)
  have h2 := c.ne
  have h3 := c.pg
  exact ⟨hL, hr, by omega, by omega, c.kp.trans kp, c.hz, c.hl⟩
theorem rd_call (hσ : σ[0]? = some (some (.ref g.x))) (c : Cu g l m j (syms ++ st) H) (hm : m ≤ n) (k : ∀ v H' l', IsT v H' → Kp g.x H H' → Cu g l' m (j + d) st H' → Q v H') :
    tCall (spP g.C g.CB [] syms n d) [] g.E (tCons (tVar 0) tNil) σ H Q := rd_callX hσ c hm (fun _ q => q) k
/-- at a def's beginning -/
theorem Cu.start {C CB x : Addr} {t : List Nat} {r : Option Nat} {E : XK} (hL : LAt C t H x l) (hl : t.length ≤ 1000000) (hr : Rn t r (syms ++ st) l) (hn : nest t l < n) (hz : ∀ p, r = some p → Rz CB x H E p) :
    Cu ⟨C, CB, t, r, x, H, E⟩ l n l.pl (syms ++ st) H := ⟨hL, hr, hn, Nat.le_refl _, Kp.refl _ _, hz, hl⟩
/-- at its end -/
theorem Cu.back {C CB x : Addr} {t : List Nat} {r : Option Nat} {E : XK} {H0 : Hp} {l0 : Lx} {v : V} (c : Cu ⟨C, CB, t, r, x, H0, E⟩ l m (l0.pl + d) st H) (iv : IsT v H)
    (k : ∀ v H' l', IsT v H' → Kp x H0 H' → LAt C t H' x l' → Rn t r st l' → l0.pl + d ≤ l'.pl → Q v H') : Q v H := k v H l iv c.kp c.la c.rn c.pg
end
end K04
end

section
set_option Elab.async false
set_option maxRecDepth 100000
set_option maxHeartbeats 4000000
set_option pp.maxSteps 2000
/-! K8: the parser's defs of numbers: chains, parts, numbers, places. -/
namespace K04
open PySem L2 PyProof.Rows
/-! ### the written tables -/
def lvT (b : Bool) : List (Str × V) := if b = true then [("*", .int 3), ("/", .int 3), ("+", .int 2), ("-", .int 2), ("<", .int 1), ("==", .int 1)]
  else [("!", .int 10), ("*", .int 9), ("+", .int 8), ("-", .int 8), ("#", .int 7), ("<<", .int 6), (">>", .int 6), ("<", .int 5), ("==", .int 4), ("&", .int 3), ("^", .int 2), ("|", .int 1)]
def wdT (b : Bool) : List (Str × V) := if b = true then [("*", .str "times"), ("/", .str "over"), ("+", .str "plus"), ("-", .str "minus"), ("<", .str "less"), ("==", .str "same")]
  else [("!", .str "pick"), ("*", .str "mul"), ("+", .str "add"), ("-", .str "sub"), ("#", .str "join"), ("<<", .str "shl"), (">>", .str "shr"), ("<", .str "lt"), ("==", .str "eq"), ("&", .str "and"), ("^", .str "xor"), ("|", .str "or")]
def ahT : List (Str × V) := [("~", .str "not"), ("&", .str "all"), ("|", .str "any"), ("^", .str "odd")]
def STS : List Str := ["in", "out", "wire", "reg", "mem", "for", "when"]
def hdN (b : Bool) : List Str := if b = true then ["*", "/", "+", "-", "<", "=="] else ["!", "*", "+", "-", "#", "<<", ">>", "<", "==", "&", "^", "|"]
def syP (b : Bool) : Str := if b = true then "NUMPART" else "PART"
def syT (b : Bool) : Str := if b = true then "NUMTAIL" else "TAIL"
def lv (b : Bool) (z : Str) : Int := match (lvT b).lookup z with
  | some (.int i) => i
  | _ => -1
theorem lv_all (b : Bool) : ((lvT b).all fun p => match p.2 with | .int i => decide (0 ≤ i) && (hdN b).contains p.1 && (match (wdT b).lookup p.1 with | some (.str _) => true | _ => false) | _ => false) = true := by cases b <;> decide +kernel
theorem hd_all (b : Bool) : ((hdN b).all fun z => decide (0 ≤ lv b z) && SGT.contains z) = true := by cases b <;> decide +kernel
theorem lv_get (b : Bool) (z : Str) : ((lvT b).lookup z).getD (.int (-1)) = .int (lv b z) := by
  unfold lv
  cases h : (lvT b).lookup z with
  | none => rfl
  | some v =>
    have q := List.all_eq_true.mp (lv_all b) _ (lookup_mem h)
    cases v with
    | int i => rfl
    | _ => cases q
theorem lv_pos {b : Bool} {z : Str} (h : 0 ≤ lv b z) : z ∈ hdN b ∧ ∃ y, (wdT b).lookup z = some (.str y) := by
  unfold lv at h
  cases e : (lvT b).lookup z with
  | none =>
    rw [e] at h
    exact absurd h (by decide)
  | some v =>
    have q := List.all_eq_true.mp (lv_all b) _ (lookup_mem e)
    cases v with
    | int i =>
      simp only [Bool.and_eq_true, decide_eq_true_eq, List.contains_iff_mem] at q
      refine ⟨q.1.2, ?_⟩
      have q2 := q.2
      cases f : (wdT b).lookup z with
      | none => rw [f] at q2; cases q2
      | some y =>
        rw [f] at q2
        cases y with
        | str y => exact ⟨y, rfl⟩
        | _ => cases q2
    | _ => cases q
theorem lv_neg {b : Bool} {z : Str} (h : lv b z < 0) : z ∉ hdN b := fun m => by
  have q := List.all_eq_true.mp (hd_all b) _ m
  rw [Bool.and_eq_true, decide_eq_true_eq] at q
  omega
theorem hd_sg {b : Bool} {z : Str} (h : z ∈ hdN b) : z ∈ SGT := by
  have q := List.all_eq_true.mp (hd_all b) _ h
  rw [Bool.and_eq_true, List.contains_iff_mem] at q
  exact q.2
/-- a sign's level -/
def lvl (b : Bool) (l : Lx) : Int := if l.kd = .sign then lv b (S l.tx) else -1
theorem lvl_pos {b : Bool} {l : Lx} (h : ¬ lvl b l < 0) : S l.tx ∈ hdN b ∧ ∃ y, (wdT b).lookup (S l.tx) = some (.str y) := by
  unfold lvl at h
  split at h
  · exact lv_pos (by omega)
  · exact absurd (by decide) h
theorem lvl_neg {b : Bool} {t : List Nat} {l : Lx} (ok : LxOk t l) (h : lvl b l < 0) : S l.tx ∉ hdN b := fun m => by
  unfold lvl at h
  rw [if_pos (ok.sg (hd_sg m))] at h
  exact lv_neg h m

/-! ### bundles -/
structure LA (P : Program) (K : PySem.W.Frag) (mg : Str → Option Value) (C CB f1 cc cda : Addr) where
  L : LxTx K mg
  T : ClTx K mg C
  B : BadTx P K mg CB f1 cc cda
  fdI : FuncData
  hfd : ∃ oc od osl, K.lookup f1 = some ⟨oc, od, .func fdI, osl⟩
  bI : Binds K fdI ["self", "place"] []
section
variable {P : Program} {w : World} {K : PySem.W.Frag} {mg : Str → Option Value} {base : Heap} {C CB f1 cc cda : Addr}
theorem LA.g_take (A : LA P K mg C CB f1 cc cda) : FnOk P w K mg base (L2.CX P w) 5 A.T.mTake.f A.T.mTake.fd ["self", "lexeme"] (spTake C CB) := ok_take A.L A.T A.B A.hfd A.bI
theorem LA.g_name (A : LA P K mg C CB f1 cc cda) : FnOk P w K mg base (L2.CX P w) 5 A.T.mName.f A.T.mName.fd ["self"] (spName C CB) := ok_name A.L A.T A.B A.hfd A.bI
theorem LA.g_finish (A : LA P K mg C CB f1 cc cda) : FnOk P w K mg base (L2.CX P w) 4 A.T.mFin.f A.T.mFin.fd ["self"] (spFinish C CB) := ok_finish A.T A.B A.hfd A.bI
theorem LA.g_has (A : LA P K mg C CB f1 cc cda) : FnOk P w K mg base CX0 5 A.T.mHas.f A.T.mHas.fd ["self", "lexeme"] (spHas C) := ok_has A.L A.T
theorem LA.g_go (A : LA P K mg C CB f1 cc cda) : FnOk P w K mg base CX0 4 A.T.mGo.f A.T.mGo.fd ["self"] (spGo C) := ok_go A.L A.T
theorem LA.g_what (A : LA P K mg C CB f1 cc cda) : FnOk P w K mg base CX0 1 A.T.mWhat.f A.T.mWhat.fd ["self"] (spWhat C) := ok_what A.T
theorem LA.g_is_next (A : LA P K mg C CB f1 cc cda) : FnOk P w K mg base CX0 1 A.T.mNext.f A.T.mNext.fd ["self", "lexeme"] (spNext C) := ok_next A.T
theorem LA.g_is_one_of (A : LA P K mg C CB f1 cc cda) : FnOk P w K mg base CX0 1 A.T.mOne.f A.T.mOne.fd ["self", "some"] (spOneOf K C) := ok_one A.T
end
/-- a def with defaults -/
structure FunD (K : PySem.W.Frag) (x qual : Str) (st : Stmt) (f : Addr) (fd : FuncData) : Prop where
  ex : ∃ (oc : Value) (od : Option Addr) (dV kV doc pm : Value) (an : Option Addr) (cdv ct : Value) (osl : Array (Option Value)),
    fd = PySem.W.fnOf x qual (defArgs st) (defBody st) (defScope st) dV kV doc pm an cdv ct ∧ K.lookup f = some ⟨oc, od, .func fd, osl⟩ ∧ PySem.W.codeIn K cdv qual = true
  kp : PySem.W.keepIn K (.ref f) = true
theorem FunD.okX {P : Program} {w : World} {K : PySem.W.Frag} {mg : Str → Option Value} {base : Heap} {x qual : Str} {st : Stmt} {f : Addr} {fd : FuncData} {N ps : List Str} {k : Nat} {sp : Sp} (F : FunD K x qual st f fd) (S : FnScope N ps (defScope st)) (len : ∀ vs H Q E, sp vs H Q E → vs.length = ps.length)
    (body : ∀ (cdv : Value) (A : Around) (outer : List Env) (s : Shared) (H : Hp) (vs : List V) (Q : VK) (E : XK), Room k (A.deeper (envOfC qual (defScope st) s.heap.objs.size f cdv)) → sp vs H Q E →
      ∃ t, PSs (cxOf (L2.CX P w) P w K mg base N qual (defScope st) f cdv A outer s H E) (defBody st) t ∧ t { nx := fun _ H' => Q .non H', rt := Q } (L2.start N vs) H) : FnOk P w K mg base (L2.CX P w) (k + 1) f fd ps sp := by
  obtain ⟨oc, od, dV, kV, doc, pm, an, cdv, ct, osl, rfl, lk, hcd⟩ := F.ex
  exact fn_of lk hcd S len (body cdv)
structure DfD (K : PySem.W.Frag) (mg : Str → Option Value) (x : Str) (st : Stmt) (ps : List Str) where
  f : Addr
  fd : FuncData
  F : FunD K x x st f fd
  b : Binds K fd ps []
  g : mg x = some (.ref f)
structure RdTx (w : World) (K : PySem.W.Frag) (mg : Str → Option Value) where
  sign_level : Df K mg "sign_level" (topS 24) ["lexer", "is_number"]
  read_chain : Df K mg "read_chain" (topS 25) ["lexer", "is_number"]
  part_here : Df K mg "part_here" (topS 26) ["lexer", "is_number"]
  read_number_part : Df K mg "read_number_part" (topS 27) ["lexer"]
  number_here : Df K mg "number_here" (topS 28) ["lexer"]
  numbers_here : Df K mg "numbers_here" (topS 29) ["lexer"]
  place_here : Df K mg "place_here" (topS 30) ["lexer"]
  read_atom : Df K mg "read_atom" (topS 31) ["lexer"]
  read_part_here : Df K mg "read_part_here" (topS 32) ["lexer"]
  expression_here : Df K mg "expression_here" (topS 33) ["lexer"]
  sizes_here : Df K mg "sizes_here" (topS 34) ["lexer"]
  end_here : Df K mg "end_here" (topS 35) ["lexer", "item"]
  width_here : Df K mg "width_here" (topS 36) ["lexer"]
  reg_here : Df K mg "reg_here" (topS 37) ["lexer"]
  mem_here : Df K mg "mem_here" (topS 38) ["lexer"]
  ports_here : Df K mg "ports_here" (topS 39) ["lexer"]
  named_here : Df K mg "named_here" (topS 40) ["lexer"]
  each_here : Df K mg "each_here" (topS 41) ["lexer"]
  when_here : Df K mg "when_here" (topS 42) ["lexer"]
  item_here : Df K mg "item_here" (topS 43) ["lexer"]
  items_here : DfD K mg "items_here" (topS 44) ["lexer", "is_full"]
  module_here : Df K mg "module_here" (topS 45) ["lexer"]
  design_here : Df K mg "design_here" (topS 46) ["lexer"]
  items1 : Binds K items_here.fd ["lexer", "is_full"] [.bool false]
  aNUMBER_WORDS : Addr
  gNUMBER_WORDS : mg "NUMBER_WORDS" = some (.ref aNUMBER_WORDS)
  kNUMBER_WORDS : KTab K w aNUMBER_WORDS (wdT true)
  aNUMBER_LEVELS : Addr
  gNUMBER_LEVELS : mg "NUMBER_LEVELS" = some (.ref aNUMBER_LEVELS)
  kNUMBER_LEVELS : KTab K w aNUMBER_LEVELS (lvT true)
  aWORDS : Addr
  gWORDS : mg "WORDS" = some (.ref aWORDS)
  kWORDS : KTab K w aWORDS (wdT false)
  aLEVELS : Addr
  gLEVELS : mg "LEVELS" = some (.ref aLEVELS)
  kLEVELS : KTab K w aLEVELS (lvT false)
  aAHEAD_WORDS : Addr
  gAHEAD_WORDS : mg "AHEAD_WORDS" = some (.ref aAHEAD_WORDS)
  kAHEAD_WORDS : KTab K w aAHEAD_WORDS ahT
  aSTARTS : Addr
  gSTARTS : mg "STARTS" = some (.ref aSTARTS)
  kSTARTS : ∀ H, SqT K H aSTARTS (STS.map V.str)
  m_tuple : mg "tuple" = none
  m_int : mg "int" = none

/-! ### what stays -/
/-- each tuple stays -/
def Tk (H H' : Hp) : Prop := ∀ a xs, H a = some (.tup xs) → H' a = some (.tup xs)
theorem Tk.refl (H : Hp) : Tk H H := fun _ _ h => h
theorem Tk.trans {H H1 H2 : Hp} (a : Tk H H1) (b : Tk H1 H2) : Tk H H2 := fun p xs h => b p xs (a p xs h)
theorem Tk.same {H H1 : Hp} (a : Same H H1) : Tk H H1 := fun p xs h => a p _ h
theorem Tk.up {H : Hp} {p : Addr} (h : H p = none) (o : HO) : Tk H (upd H p o) := Tk.same (same_up h o)
theorem Tk.set {H : Hp} {p : Addr} {xs : List V} (h : H p = some (.lst xs)) (o : HO) : Tk H (upd H p o) := fun a ys e => by
  rw [upd_ne (fun z => by subst z; rw [h] at e; cases e)]
  exact e
theorem Tk.kp {C x : Addr} {t : List Nat} {l : Lx} {H H' : Hp} (hL : LAt C t H x l) (k : Kp x H H') : Tk H H' := fun a ys e => by
  obtain ⟨⟨dx, q, hx, _⟩, _⟩ := hL
  exact k _ _ e (ne_of e hx (fun z => by cases z))
theorem IsT.tk {v : V} {H H' : Hp} (h : IsT v H) (k : Tk H H') : IsT v H' := by
  obtain ⟨p, xs, rfl, e⟩ := h
  exact ⟨p, xs, rfl, k _ _ e⟩
theorem IsT.new {H : Hp} {p : Addr} {xs : List V} : IsT (.ref p) (upd H p (.tup xs)) := ⟨p, xs, rfl, upd_same⟩
/-- a sign put by -/
def IsSg (b : Bool) (v : V) (H : Hp) : Prop := ∃ a k z y, v = .ref a ∧ H a = some (.tup [.int k, .str z]) ∧ (wdT b).lookup z = some (.str y)
theorem IsSg.tk {b : Bool} {v : V} {H H' : Hp} (h : IsSg b v H) (k : Tk H H') : IsSg b v H' := by
  obtain ⟨a, i, z, y, rfl, e, f⟩ := h
  exact ⟨a, i, z, y, rfl, k _ _ e, f⟩

/-! ### defs -/
section
variable {P : Program} {w : World} {K : PySem.W.Frag} {mg : Str → Option Value} {base : Heap} {C CB f1 cc cda : Addr}
theorem sc_sign_level : FnScope ["lexer", "is_number"] ["lexer", "is_number"] (defScope (topS 24)) := ⟨rfl, rfl, rfl, by decide +kernel, rfl, by decide +kernel, by decide +kernel⟩
def spLevel (C : Addr) : Sp := fun vs H Q _ => ∃ t x l b, vs = [.ref x, .bl b] ∧ LAt C t H x l ∧ Q (.int (lvl b l)) H
theorem kd_sign (l : Lx) : decide (V.str (kdS l.kd) = V.str ("sign" : Str)) = decide (l.kd = .sign) := by cases l.kd <;> decide +kernel
theorem kd_num (l : Lx) : decide (V.str (kdS l.kd) = V.str ("numeral" : Str)) = decide (l.kd = .numeral) := by cases l.kd <;> decide +kernel
theorem ok_sign_level (A : LA P K mg C CB f1 cc cda) (T : RdTx w K mg) : FnOk P w K mg base CX0 2 T.sign_level.f T.sign_level.fd ["lexer", "is_number"] (spLevel C) := by
  refine T.sign_level.F.ok sc_sign_level (fun vs H Q E h => ?_) (fun cdv _ outer s H vs Q E hr h => ?_)
  · obtain ⟨t, x, l, b, rfl, _⟩ := h
    rfl
  obtain ⟨t, x, l, b, rfl, hL, k⟩ := h
  obtain ⟨⟨dx, q, hx, hq⟩, ok⟩ := id hL
  refine ⟨_, (pss_cons (ps_if (pt_cmpR op_ne (pe_meth0 (pv 0) A.T.cl A.T.mWhat.mt A.g_what (hr.mono (by omega)) A.T.mWhat.b .nil pass0) pe_str (nomark _)) (pss_one (ps_ret (pe_un un_neg pe_int))) pss_nil)
    (pss_one (ps_ret (pe_ifExp (pt_val (pv 1)) (pe_kget (pe_glob (v := .ref T.aNUMBER_LEVELS) rfl T.gNUMBER_LEVELS rfl) (pe_ix ix_tup (pe_fld (pv 0) rfl) pe_int (fun _ _ => rfl)) (pe_un un_neg pe_int) ⟨rfl, rfl, rfl, rfl⟩) (pe_kget (pe_glob (v := .ref T.aLEVELS) rfl T.gLEVELS rfl) (pe_ix ix_tup (pe_fld (pv 0) rfl) pe_int (fun _ _ => rfl)) (pe_un un_neg pe_int) ⟨rfl, rfl, rfl, rfl⟩))))), ?_⟩
  refine ⟨_, rfl, x, dx, _, rfl, hx, lfs_no t q (by decide +kernel) (by decide +kernel), t, x, l, rfl, hL, rfl, _, rfl, ?_⟩
  rw [kd_sign]
  by_cases e : l.kd = .sign
  · rw [decide_eq_true e]
    refine iteF ?_
    have done : Q (((lvT b).lookup (S l.tx)).getD (.int (-1))) H := by
      rw [lv_get]
      unfold lvl at k
      rw [if_pos e] at k
      exact k
    cases b with
    | true => exact ⟨_, rfl, _, rfl, iteT ⟨_, _, rfl, T.kNUMBER_LEVELS, _, rfl, x, C, dx, _, _, rfl, hx, A.T.cl, A.T.nN, lfs_now t q, q, _, 1, _, rfl, rfl, SqT.of hq, atI_nat (j := 1) rfl, _, rfl, 1, rfl, done⟩⟩
    | false => exact ⟨_, rfl, _, rfl, iteF ⟨_, _, rfl, T.kLEVELS, _, rfl, x, C, dx, _, _, rfl, hx, A.T.cl, A.T.nN, lfs_now t q, q, _, 1, _, rfl, rfl, SqT.of hq, atI_nat (j := 1) rfl, _, rfl, 1, rfl, done⟩⟩
  · rw [decide_eq_false e]
    unfold lvl at k
    rw [if_neg e] at k
    exact iteT ⟨1, rfl, k⟩
end
end K04
end

section
set_option Elab.async false
set_option maxRecDepth 100000
set_option maxHeartbeats 4000000
set_option pp.maxSteps 2000
/-! K9: chains of parts and signs. -/
namespace K04
open PySem L2 PyProof.Rows
section
variable {P : Program} {w : World} {K : PySem.W.Frag} {mg : Str → Option Value} {base : Heap} {C CB f1 cc cda : Addr}
def spChain (C CB : Addr) (b : Bool) (n : Nat) : Sp := fun vs H Q E => ∃ t r x l st, vs = [.ref x, .bl b] ∧ LAt C t H x l ∧ t.length ≤ 1000000 ∧ Rn t r (syP b :: syT b :: st) l ∧ nest t l < n ∧ (∀ p, r = some p → Rz CB x H E p) ∧
  ∀ v H' l', IsT v H' → Kp x H H' → LAt C t H' x l' → Rn t r (syT b :: st) l' → S l'.tx ∉ hdN b → l.pl + 1 ≤ l'.pl → Q v H'
/-- what stands in the two lists of a chain -/
structure ChI (b : Bool) (H0 : Hp) (p q : Addr) (xs ys : List V) (H : Hp) : Prop where
  hp : H p = some (.lst xs)
  hq : H q = some (.lst ys)
  fp : H0 p = none
  fq : H0 q = none
  px : ∀ v ∈ xs, IsT v H
  sy : ∀ v ∈ ys, IsSg b v H
  ln : xs.length = ys.length + 1
  ne : p ≠ q
theorem Cu.fresh {g : Gh} {l : Lx} {m j : Nat} {st : List Str} {H : Hp} {p : Addr} (c : Cu g l m j st H) (h : H p = none) : g.H0 p = none := by
  cases e : g.H0 p with
  | none => rfl
  | some o =>
    have hx : p ≠ g.x := fun z => by
      obtain ⟨dx, q, hx, _⟩ := c.ins
      rw [z, hx] at h
      cases h
    have z := c.kp _ _ e hx
    rw [h] at z
    cases z
/-- a cursor counts from where it stands -/
theorem Cu.here {g : Gh} {l : Lx} {m j : Nat} {st : List Str} {H : Hp} (c : Cu g l m j st H) : Cu g l m l.pl st H := ⟨c.la, c.rn, c.ne, Nat.le_refl _, c.kp, c.hz, c.hl⟩
theorem fit3 {n : Nat} (h : n ≤ 10) : n ≤ sizeLine := Nat.le_trans h (by decide)
/-- lists' types -/
theorem lst_ty {K : PySem.W.Frag} {H : Hp} {p : Addr} {xs : List V} (h : H p = some (.lst xs)) : tyV K "list" (.ref p) H := Or.inl ⟨rfl, _, Or.inl (Or.inl h)⟩
theorem ixN_last (n : Nat) : ixN (n + 1) (-1) = some n := by
  unfold ixN
  rw [if_neg (by decide), if_pos (by omega)]
  congr 1
  omega
theorem chain_test {K : PySem.W.Frag} {H : Hp} {x p q : Addr} {b : Bool} {i : Int} {ys : List V} {Q : Bool → Hp → Prop} {o5 o6 o7 : Option V} (hq : H q = some (.lst ys)) (sy : ∀ v ∈ ys, IsSg b v H)
    (kT : ∀ H4 zs s, ys = zs ++ [s] → Same H H4 → Q true H4) (kF : ∀ H4, Same H H4 → Q false H4) :
    tAnd (tTest (tOp (rNil K true) (tVar 3) (tLst tNil))) (tTest (tOp (rI0 fun i j => .bl (decide (j ≤ i))) (tOp (rIxT K) (tOp (rIxL K) (tVar 3) (tUn (rU fun i => .int (-i)) (tC (.int 1)))) (tC (.int 0))) (tVar 4)))
      [some (.ref x), some (.bl b), some (.ref p), some (.ref q), some (.int i), o5, o6, o7] H Q := by
  refine ⟨_, rfl, fit3 (Nat.zero_le _), fun e he => ⟨q, e, ys, rfl, rfl, SqL.of (same_up he _ _ _ hq), SqL.of upd_same, _, rfl, ?_⟩⟩
  rcases List.eq_nil_or_concat ys with rfl | ⟨zs, s, e⟩
  · exact iteF (kF _ (same_up he _))
  · rw [List.concat_eq_append] at e
    subst e
    obtain ⟨a, k, z, y, es, ha, _⟩ := sy s (List.mem_append_right _ List.mem_cons_self)
    have w : ((zs ++ [s]).isEmpty) = false := by cases zs <;> rfl
    rw [w]
    refine iteT ?_
    refine ⟨_, rfl, 1, rfl, q, _, -1, s, rfl, rfl, SqL.of (same_up he _ _ _ hq), atI_last zs s, a, _, 0, _, es, rfl, SqT.of (same_up he _ _ _ ha), atI_nat (j := 0) rfl, _, rfl, _, _, rfl, rfl, _, rfl, ?_⟩
    by_cases hc : i ≤ k
    · rw [decide_eq_true hc]
      exact kT _ zs s rfl (same_up he _)
    · rw [decide_eq_false hc]
      exact kF _ (same_up he _)
theorem rowTail (b : Bool) : RowA (syT b) (hdN b) ["ANY", syP b, syT b] := by cases b <;> decide +kernel
theorem sc_read_chain : FnScope ["lexer", "is_number", "parts", "signs", "level", "last", "sign", "word"] ["lexer", "is_number"] (defScope (topS 25)) := ⟨rfl, rfl, rfl, by decide +kernel, rfl, by decide +kernel, by decide +kernel⟩
theorem ok_read_chain (A : LA P K mg C CB f1 cc cda) (T : RdTx w K mg) {n k0 : Nat} {b : Bool} (h5 : 5 ≤ k0) (G_part_here : FnOk P w K mg base (L2.CX P w) k0 T.part_here.f T.part_here.fd ["lexer", "is_number"] (spP C CB [.bl b] [syP b] n 1)) :
    FnOk P w K mg base (L2.CX P w) (k0 + 1) T.read_chain.f T.read_chain.fd ["lexer", "is_number"] (spChain C CB b n) := by
  refine T.read_chain.F.okX sc_read_chain (fun vs H Q E h => ?_) (fun cdv _ outer s H vs Q E hr h => ?_)
  · obtain ⟨t, r, x, l, st, rfl, _⟩ := h
    rfl
  obtain ⟨t, r, x, l, st, rfl, hL, hl, hrn, hn, hz, k⟩ := h
  have c : Cu ⟨C, CB, t, r, x, H, E⟩ l n l.pl (syP b :: syT b :: st) H := ⟨hL, hrn, hn, Nat.le_refl _, Kp.refl _ _, hz, hl⟩
  have nd := sc_read_chain.nd
  have G_sign_level := ok_sign_level (w := w) (P := P) (base := base) A T
  refine ⟨_, (pss_cons (ps_par (i := 2) (j := 3) rfl nd rfl rfl (by decide) rfl rfl (pa_cons (pe_lst (pa_cons (pe_call G_part_here (hr.mono (by omega)) rfl T.part_here.g T.part_here.F.kp T.part_here.b .nil passE (pa_cons (pv 0) (pa_cons (pv 1) pa_nil))) pa_nil)) (pa_cons (pe_lst pa_nil) pa_nil)) (by rfl))
    (pss_one (ps_while (passes_of rfl) (pt_val pe_bl) (pss_cons (ps_set (i := 4) nd rfl (.inl rfl) (pe_call G_sign_level (hr.mono (by omega)) rfl T.sign_level.g T.sign_level.F.kp T.sign_level.b .nil pass0 (pa_cons (pv 0) (pa_cons (pv 1) pa_nil))))
    (pss_cons (ps_while (passes_of rfl) (PW.pt (pw_and (pt_cmpR (op_neNil hr.units0) (pv 3) (pe_lst pa_nil) (nomark _)) (pw_and1 (pt_cmpR op_ge (pe_ix ix_tup (pe_ix ix_list (pv 3) (pe_un un_neg pe_int) (fun _ _ => rfl)) pe_int (fun _ _ => rfl)) (pv 4) (nomark _))))) (pss_cons (ps_par (i := 5) (j := 6) rfl nd rfl rfl (by decide) rfl rfl (pa_cons (pe_bm0 PySem.F.plainAttrs_list PySem.F.slot_list_pop PySem.F.type_list_pop mt_pop (pv 2)) (pa_cons (pe_ix ix_tup (pe_bm0 PySem.F.plainAttrs_list PySem.F.slot_list_pop PySem.F.type_list_pop mt_pop (pv 3)) pe_int (fun _ _ => rfl)) pa_nil)) (by rfl))
    (pss_cons (ps_set (i := 7) nd rfl (.inl rfl) (pe_ifExp (pt_val (pv 1)) (pe_ix ix_kdict (pe_glob (v := .ref T.aNUMBER_WORDS) rfl T.gNUMBER_WORDS rfl) (pv 6) (fun _ _ => rfl)) (pe_ix ix_kdict (pe_glob (v := .ref T.aWORDS) rfl T.gWORDS rfl) (pv 6) (fun _ _ => rfl))))
    (pss_one (ps_asg (pe_tup (pa_cons (pv 7) (pa_cons (pe_ix ix_list (pv 2) (pe_un un_neg pe_int) (fun _ _ => rfl)) (pa_cons (pv 5) pa_nil)))) (pg_sub (pv 2) (pe_un un_neg pe_int) set_list))))))
    (pss_cons (ps_if (pt_cmpR op_lt (pv 4) pe_int (nomark _)) (pss_one (ps_ret (pe_ix ix_list (pv 2) pe_int (fun _ _ => rfl)))) pss_nil)
    (pss_cons (ps_expr (pe_bm PySem.F.plainAttrs_list PySem.F.slot_list_append PySem.F.type_list_append mt_append (pv 3) (pa_cons (pe_tup (pa_cons (pv 4) (pa_cons (pe_meth0 (pv 0) A.T.cl A.T.mGo.mt A.g_go (hr.mono (by omega)) A.T.mGo.b .nil pass0) pa_nil))) pa_nil)))
    (pss_one (ps_expr (pe_bm PySem.F.plainAttrs_list PySem.F.slot_list_append PySem.F.type_list_append mt_append (pv 2) (pa_cons (pe_call G_part_here (hr.mono (by omega)) rfl T.part_here.g T.part_here.F.kp T.part_here.b .nil passE (pa_cons (pv 0) (pa_cons (pv 1) pa_nil))) pa_nil))))))))))), ?_⟩
  refine rd_callX (g := ⟨C, CB, t, r, x, H, E⟩) (syms := [syP b]) (d := 1) rfl c (Nat.le_refl n) (fun Q' q => ⟨_, rfl, q⟩) (fun v H1 l1 iv kp1 c1 => ?_)
  have pq : ∀ {H1 : Hp} {p q : Addr} {o : HO}, (upd H1 p o) q = none → p ≠ q := fun h e => by
    subst e
    rw [upd_same] at h
    cases h
  refine ⟨fit3 (by show 1 ≤ 10; decide), fun p hp => ⟨fit3 (Nat.zero_le _), fun q hq => ⟨_, _, rfl, ?_⟩⟩⟩
  refine ⟨fun m σ H' => ∃ l2 j p q xs ys o4 o5 o6 o7, σ = [some (.ref x), some (.bl b), some (.ref p), some (.ref q), o4, o5, o6, o7] ∧ m = t.length - l2.pl ∧ l.pl + 1 ≤ j ∧ Cu ⟨C, CB, t, r, x, H, E⟩ l2 n j (syT b :: st) H' ∧ ChI b H p q xs ys H' ∧ ys.length ≤ l2.pl,
    ⟨_, l1, _, p, q, [v], [], _, _, _, _, rfl, rfl, Nat.le_refl _, (c1.up hp _).up hq _, ⟨same_up hq _ _ _ upd_same, upd_same, c1.fresh hp, (c1.up hp _).fresh hq, fun u hu => ?_, fun u hu => absurd hu List.not_mem_nil, rfl, pq hq⟩, Nat.zero_le _⟩, ?_⟩
  · rw [List.mem_singleton] at hu
    subst hu
    exact (iv.tk (Tk.up hp _)).tk (Tk.up hq _)
  rintro m σ H2 ⟨l2, j, p, q, xs, ys, o4, o5, o6, o7, rfl, rfl, hj, c2, ch, hys⟩
  refine ⟨true, rfl, iteT ⟨fun σ' H'' => ∃ m', m' < t.length - l2.pl ∧ ∃ l2 j p q xs ys o4 o5 o6 o7, σ' = [some (.ref x), some (.bl b), some (.ref p), some (.ref q), o4, o5, o6, o7] ∧ m' = t.length - l2.pl ∧ l.pl + 1 ≤ j ∧ Cu ⟨C, CB, t, r, x, H, E⟩ l2 n j (syT b :: st) H'' ∧ ChI b H p q xs ys H'' ∧ ys.length ≤ l2.pl, fun _ _ h => h, ?_⟩⟩
  -- level = sign_level(..)
  refine ⟨_, rfl, _, rfl, t, x, l2, b, rfl, c2.la, ?_⟩
  refine ⟨fun m σ H' => ∃ xs ys o5 o6 o7, σ = [some (.ref x), some (.bl b), some (.ref p), some (.ref q), some (.int (lvl b l2)), o5, o6, o7] ∧ m = ys.length ∧ Cu ⟨C, CB, t, r, x, H, E⟩ l2 n j (syT b :: st) H' ∧ ChI b H p q xs ys H' ∧ ys.length ≤ l2.pl,
    ⟨_, xs, ys, _, _, _, rfl, rfl, c2, ch, hys⟩, ?_⟩
  clear ch hys c2
  rintro m σ H3 ⟨xs, ys, o5, o6, o7, rfl, rfl, c3, ch, hys⟩
  refine chain_test ch.hq ch.sy (fun H4 zs s e sm => iteT ⟨fun σ' H' => ∃ m', m' < ys.length ∧ ∃ xs ys o5 o6 o7, σ' = [some (.ref x), some (.bl b), some (.ref p), some (.ref q), some (.int (lvl b l2)), o5, o6, o7] ∧ m' = ys.length ∧ Cu ⟨C, CB, t, r, x, H, E⟩ l2 n j (syT b :: st) H' ∧ ChI b H p q xs ys H' ∧ ys.length ≤ l2.pl, fun _ _ h => h, ?_⟩) (fun H4 sm => iteF ?_)
  · -- last, sign = ..
    subst e
    have hp4 := sm _ _ ch.hp
    have hq4 := sm _ _ ch.hq
    have c4 := c3.same sm
    obtain ⟨a, i, z, y, rfl, ha, hy⟩ := ch.sy s (List.mem_append_right _ List.mem_cons_self)
    have ha4 := sm _ _ ha
    have ln := ch.ln
    have px := ch.px
    rw [List.length_append, List.length_singleton] at ln
    rcases List.eq_nil_or_concat xs with rfl | ⟨xs1, u, e⟩
    · exact absurd ln (by show ¬ (0 = _); omega)
    rw [List.concat_eq_append] at e
    subst e
    rw [List.length_append, List.length_singleton] at ln
    rcases List.eq_nil_or_concat xs1 with rfl | ⟨xs2, u2, e⟩
    · exact absurd ln (by show ¬ (0 + 1 = _); omega)
    rw [List.concat_eq_append] at e
    subst e
    rw [List.length_append, List.length_singleton] at ln
    have gl : ((xs2 ++ [u2]) ++ [u])[((xs2 ++ [u2]) ++ [u]).length - 1]? = some u := by simp
    have gs : (zs ++ [V.ref a])[(zs ++ [V.ref a]).length - 1]? = some (.ref a) := by simp
    refine ⟨_, rfl, lst_ty hp4, p, _, u, rfl, rfl, hp4, gl, ?_⟩
    rw [List.dropLast_concat]
    have q5 : (upd H4 p (.lst (xs2 ++ [u2]))) q = some (.lst (zs ++ [V.ref a])) := by
      rw [upd_ne (Ne.symm ch.ne)]
      exact hq4
    have k5 : Tk H4 (upd H4 p (.lst (xs2 ++ [u2]))) := Tk.set hp4 _
    have c5 : Cu ⟨C, CB, t, r, x, H, E⟩ l2 n j (syT b :: st) (upd H4 p (.lst (xs2 ++ [u2]))) := c4.set hp4 ch.fp _
    refine ⟨_, rfl, lst_ty q5, q, _, .ref a, rfl, rfl, q5, gs, ?_⟩
    rw [List.dropLast_concat]
    have k6 := Tk.set q5 (.lst zs)
    have c6 := c5.set q5 ch.fq (.lst zs)
    have p6 : (upd (upd H4 p (.lst (xs2 ++ [u2]))) q (.lst zs)) p = some (.lst (xs2 ++ [u2])) := by
      rw [upd_ne ch.ne]
      exact upd_same
    have q6 : (upd (upd H4 p (.lst (xs2 ++ [u2]))) q (.lst zs)) q = some (.lst zs) := upd_same
    have t6 := (Tk.same sm).trans (k5.trans k6)
    generalize upd (upd H4 p (.lst (xs2 ++ [u2]))) q (.lst zs) = H6 at k6 c6 p6 q6 t6 ⊢
    refine ⟨a, _, 1, _, rfl, rfl, SqT.of (t6 _ _ ha), atI_nat (j := 1) rfl, _, _, rfl, ?_⟩
    have word : ∀ {Q' : VK}, (Q' (.str y) H6) → (tIf (tB (tVar 1)) (tOp (rIxD K w) (tC (.ref T.aNUMBER_WORDS)) (tVar 6)) (tOp (rIxD K w) (tC (.ref T.aWORDS)) (tVar 6)))
        [some (.ref x), some (.bl b), some (.ref p), some (.ref q), some (.int (lvl b l2)), some u, some (.str z), o7] H6 Q' := fun q' => by
      cases b with
      | true => exact ⟨_, rfl, _, rfl, iteT ⟨_, rfl, _, _, _, rfl, rfl, T.kNUMBER_WORDS.there hy, q'⟩⟩
      | false => exact ⟨_, rfl, _, rfl, iteF ⟨_, rfl, _, _, _, rfl, rfl, T.kWORDS.there hy, q'⟩⟩
    refine word ?_
    refine ⟨_, rfl, _, rfl, 1, rfl, p, _, -1, u2, rfl, rfl, SqL.of p6, atI_last xs2 u2, _, rfl, fit3 (by show 3 ≤ 10; decide), fun T7 h7 => ⟨_, rfl, 1, rfl, p, _, -1, xs2.length, rfl, rfl, same_up h7 _ _ _ p6, ?_, ?_⟩⟩
    · rw [List.length_append, List.length_singleton]
      exact ixN_last _
    have c7 := c6.up h7 (.tup [.str y, u2, u])
    have p7 := same_up h7 (.tup [.str y, u2, u]) _ _ p6
    have q7 := same_up h7 (.tup [.str y, u2, u]) _ _ q6
    have i7 : IsT (.ref T7) (upd H6 T7 (.tup [.str y, u2, u])) := IsT.new
    have t7 := t6.trans (Tk.up h7 (.tup [.str y, u2, u]))
    generalize upd H6 T7 (.tup [.str y, u2, u]) = H7 at c7 p7 q7 i7 t7 ⊢
    have k8 : ∀ o, Tk H7 (upd H7 p o) := fun o => Tk.set p7 o
    refine ⟨zs.length, by rw [List.length_append, List.length_singleton]; omega, (xs2 ++ [u2]).set xs2.length (.ref T7), zs, _, _, _, rfl, rfl, c7.set p7 ch.fp _, ⟨upd_same, ?_, ch.fp, ch.fq, fun v hv => ?_, fun v hv => ?_, ?_, ch.ne⟩, ?_⟩
    · rw [upd_ne (Ne.symm ch.ne)]
      exact q7
    · rcases List.mem_or_eq_of_mem_set hv with h | h
      · exact ((px v (List.mem_append_left _ h)).tk t7).tk (k8 _)
      · rw [h]
        exact i7.tk (k8 _)
    · exact ((ch.sy v (List.mem_append_left _ hv)).tk t7).tk (k8 _)
    · rw [List.length_set, List.length_append, List.length_singleton]
      omega
    · rw [List.length_append, List.length_singleton] at hys
      omega
  · have c4 := c3.same sm
    have hp4 := sm _ _ ch.hp
    have hq4 := sm _ _ ch.hq
    have t4 := Tk.same sm
    have px : ∀ v ∈ xs, IsT v H4 := fun v hv => (ch.px v hv).tk t4
    have sy : ∀ v ∈ ys, IsSg b v H4 := fun v hv => (ch.sy v hv).tk t4
    have ln := ch.ln
    have ln' : l2.pl + l2.tx.length ≤ t.length := c4.ok.le
    have ll : t.length ≤ 1000000 := hl
    clear c3
    -- if level < 0
    refine ⟨_, rfl, _, _, rfl, rfl, _, rfl, ?_⟩
    by_cases hneg : lvl b l2 < 0
    · rw [decide_eq_true hneg]
      refine iteT ?_
      cases xs with
      | nil => exact absurd ln (by show ¬ (0 = _); omega)
      | cons x0 xs =>
        exact ⟨_, rfl, p, _, 0, x0, rfl, rfl, SqL.of hp4, atI_nat (j := 0) rfl, k x0 H4 l2 (px _ List.mem_cons_self) c4.kp c4.la c4.rn (lvl_neg c4.ok hneg) (Nat.le_trans hj c4.pg)⟩
    · rw [decide_eq_false hneg]
      refine iteF ?_
      obtain ⟨hm, y, hy⟩ := lvl_pos hneg
      have hj4 := Nat.le_trans hj c4.pg
      have c5 := c4.here.rowA (rowTail b) hm
      have hne : l2.tx ≠ [] := fun z => not_nil_sgt (by rw [← z]; exact hd_sg hm)
      have hpos : 0 < l2.tx.length := List.length_pos_iff.mpr hne
      -- signs.append((level, lexer.go()))
      refine ⟨_, rfl, lst_ty hq4, _, rfl, rd_go (g := ⟨C, CB, t, r, x, H, E⟩) rfl c5 fun H5 kp5 hL5 => ⟨fit3 (by show 2 ≤ 10; decide), fun T6 h6 => ?_⟩⟩
      have c6 := (c5.eat kp5 hL5 (c5.rn.any hne) hne).weak (Nat.sub_le n _) (Nat.le_refl (l2.pl + 1))
      have t5 : Tk H4 H5 := Tk.kp c4.la kp5
      have hp5 := lst_kp hp4 c4.la kp5
      have hq5 := lst_kp hq4 c4.la kp5
      have t6 := t5.trans (Tk.up h6 (.tup [.int (lvl b l2), .str (S l2.tx)]))
      have c7 := c6.up h6 (.tup [.int (lvl b l2), .str (S l2.tx)])
      have p6 := same_up h6 (.tup [.int (lvl b l2), .str (S l2.tx)]) _ _ hp5
      have q6 := same_up h6 (.tup [.int (lvl b l2), .str (S l2.tx)]) _ _ hq5
      have s6 : IsSg b (.ref T6) (upd H5 T6 (.tup [.int (lvl b l2), .str (S l2.tx)])) := ⟨T6, _, _, y, rfl, upd_same, hy⟩
      generalize upd H5 T6 (.tup [.int (lvl b l2), .str (S l2.tx)]) = H6 at c7 p6 q6 s6 t6 ⊢
      refine ⟨q, ys, .ref T6, rfl, rfl, q6, Nat.lt_of_le_of_lt hys (Nat.lt_of_le_of_lt (Nat.le_trans (by omega) ll) (by decide)), ?_⟩
      -- parts.append(part_here(..))
      have c8 := c7.set q6 ch.fq (.lst (ys ++ [.ref T6]))
      have t8 := t6.trans (Tk.set q6 (.lst (ys ++ [.ref T6])))
      have p8 : (upd H6 q (.lst (ys ++ [.ref T6]))) p = some (.lst xs) := by
        rw [upd_ne ch.ne]
        exact p6
      have s8 := s6.tk (Tk.set q6 (.lst (ys ++ [.ref T6])))
      have q8 : (upd H6 q (.lst (ys ++ [.ref T6]))) q = some (.lst (ys ++ [.ref T6])) := upd_same
      generalize upd H6 q (.lst (ys ++ [.ref T6])) = H8 at c8 p8 q8 s8 t8 ⊢
      refine ⟨_, rfl, lst_ty p8, rd_callX (g := ⟨C, CB, t, r, x, H, E⟩) (syms := [syP b]) (st := syT b :: st) (d := 1) rfl c8 (Nat.le_refl n) (fun Q' q => ⟨_, rfl, q⟩) (fun v9 H9 l9 iv9 kp9 c9 => ?_)⟩
      have t9 : Tk H8 H9 := Tk.kp c8.la kp9
      have p9 := lst_kp p8 c8.la kp9
      have q9 := lst_kp q8 c8.la kp9
      have g9 := c9.pg
      have le9 : l9.pl + l9.tx.length ≤ t.length := c9.ok.le
      refine ⟨p, xs, v9, rfl, rfl, p9, Nat.lt_of_le_of_lt (by rw [ln]; exact Nat.succ_le_succ hys) (Nat.lt_of_le_of_lt (Nat.succ_le_succ (Nat.le_trans (by omega) ll)) (by decide)), ?_⟩
      refine ⟨t.length - l9.pl, by omega, l9, _, p, q, xs ++ [v9], ys ++ [.ref T6], _, _, _, _, rfl, rfl, Nat.le_trans hj4 (by omega), c9.set p9 ch.fp _, ⟨upd_same, ?_, ch.fp, ch.fq, fun u hu => ?_, fun u hu => ?_, ?_, ch.ne⟩, ?_⟩
      · rw [upd_ne (Ne.symm ch.ne)]
        exact q9
      · rcases List.mem_append.mp hu with h | h
        · exact (((px u h).tk t8).tk t9).tk (Tk.set p9 _)
        · rw [List.mem_singleton] at h
          rw [h]
          exact iv9.tk (Tk.set p9 _)
      · rcases List.mem_append.mp hu with h | h
        · exact (((sy u h).tk t8).tk t9).tk (Tk.set p9 _)
        · rw [List.mem_singleton] at h
          rw [h]
          exact (s8.tk t9).tk (Tk.set p9 _)
      · rw [List.length_append, List.length_append, ln, List.length_singleton, List.length_singleton]
      · rw [List.length_append, List.length_singleton]
        omega
end
end K04
end

section
set_option Elab.async false
set_option maxRecDepth 100000
set_option maxHeartbeats 4000000
set_option pp.maxSteps 2000
/-! K10: numbers, places, expressions. -/
namespace K04
open PySem L2 PyProof.Rows
section
variable {g : Gh} {l : Lx} {m j n d : Nat} {st : List Str} {H : Hp} {σ : L2.St} {Q : VK} {z : Str}
/-- take, where it is not yet said what stands on top -/
theorem rd_takeO {st0 : List Str} (hσ : σ[0]? = some (some (.ref g.x))) (c : Cu g l m j st0 H) (kT : S l.tx = z → ∀ H', Kp g.x H H' → LAt g.C g.t H' g.x (nx g.t l) → Q .non H') (kF : S l.tx ≠ z → g.r = some l.pl) :
    tMeth g.C "take" (spTake g.C g.CB) [] g.E (tVar 0) (tCons (tC (.str z)) tNil) σ H Q := by
  obtain ⟨dx, q, hx, _⟩ := c.ins
  exact ⟨_, hσ, g.x, dx, _, rfl, hx, lfs_no g.t q (by decide +kernel) (by decide +kernel), g.t, g.x, l, z, rfl, c.la, c.hl, kT, fun e => c.rz (kF e)⟩
/-- is_one_of(..) with a new tuple of texts -/
theorem rd_one {E : XK} {K : PySem.W.Frag} {p : Addr} {zs : List Str} (c : Cu g l m j st H) (hp : SqT K H p (zs.map V.str)) (k : ∀ H', Same H H' → Q (.bl (oneOf l zs)) H') : spOneOf K g.C [.ref g.x, .ref p] H Q E :=
  ⟨g.t, g.x, l, p, zs, rfl, c.la, hp, k⟩
theorem oneOf_sg {t : List Nat} {l : Lx} (ok : LxOk t l) {zs : List Str} (hs : (zs.all fun z => (SGT ++ KWS).contains z) = true) : oneOf l zs = decide (S l.tx ∈ zs) := by
  unfold oneOf
  by_cases e : S l.tx ∈ zs
  · rw [decide_eq_true e, Bool.and_true]
    have q := List.all_eq_true.mp hs _ e
    rw [List.contains_iff_mem, List.mem_append] at q
    rcases q with q | q
    · rw [ok.sg q]
      rfl
    · rw [ok.kw q]
      rfl
  · rw [decide_eq_false e, Bool.and_false]
theorem inv_one (z : Str) (zs : List Str) : inV (.str z) (zs.map V.str) = decide (z ∈ zs) := inV_strs _ _
end
theorem cN_1 : cN "(" = 1 := by decide +kernel
theorem cN_2 : cN "@" = 1 := by decide +kernel
theorem cN_3 : cN "?" = 1 := by decide +kernel
theorem cN_4 : cN "{" = 1 := by decide +kernel
/-- a list that grows no faster than the text is read -/
structure LsI (H0 : Hp) (p : Addr) (xs : List V) (l : Lx) (H : Hp) : Prop where
  hp : H p = some (.lst xs)
  fp : H0 p = none
  le : xs.length ≤ l.pl
theorem LsI.fit {H0 : Hp} {p : Addr} {xs : List V} {t : List Nat} {l : Lx} {H : Hp} (h : LsI H0 p xs l H) (ok : LxOk t l) (hl : t.length ≤ 1000000) : xs.length < sizeLine := by
  have h1 := h.le
  have h2 := ok.le
  exact Nat.lt_of_le_of_lt (show xs.length ≤ 1000000 by omega) (by decide)
section
variable {P : Program} {w : World} {K : PySem.W.Frag} {mg : Str → Option Value} {base : Heap} {C CB f1 cc cda : Addr}
/-- nothing is promised -/
theorem fn_no {k : Nat} {f : Addr} {fd : FuncData} {ps : List Str} {CX : CXT} : FnOk P w K mg base CX k f fd ps (fun _ _ _ _ => False) := ⟨fun _ _ _ _ h => h.elim, fun _ _ _ _ _ _ _ _ _ _ _ _ _ h => h.elim⟩
theorem sc_part_here : FnScope ["lexer", "is_number"] ["lexer", "is_number"] (defScope (topS 26)) := ⟨rfl, rfl, rfl, by decide +kernel, rfl, by decide +kernel, by decide +kernel⟩
theorem ok_part_hereN (T : RdTx w K mg) {n k : Nat} (G_read_number_part : FnOk P w K mg base (L2.CX P w) k T.read_number_part.f T.read_number_part.fd ["lexer"] (spP C CB [] ["NUMPART"] n 1)) :
    FnOk P w K mg base (L2.CX P w) (k + 1) T.part_here.f T.part_here.fd ["lexer", "is_number"] (spP C CB [.bl true] [syP true] n 1) := by
  have G_read_part_here : FnOk P w K mg base (L2.CX P w) k T.read_part_here.f T.read_part_here.fd ["lexer"] (fun _ _ _ _ => False) := fn_no
  refine T.part_here.F.okX sc_part_here (fun vs H Q E h => ?_) (fun cdv _ outer s H vs Q E hr h => ?_)
  · obtain ⟨t, r, x, l, st, rfl, _⟩ := h
    rfl
  obtain ⟨t, r, x, l, st, rfl, h⟩ := h
  refine ⟨_, (pss_one (ps_ret (pe_ifExp (pt_val (pv 1)) (pe_call G_read_number_part (hr.mono (by omega)) rfl T.read_number_part.g T.read_number_part.F.kp T.read_number_part.b .nil passE (pa_cons (pv 0) pa_nil)) (pe_call G_read_part_here (hr.mono (by omega)) rfl T.read_part_here.g T.read_part_here.F.kp T.read_part_here.b .nil passE (pa_cons (pv 0) pa_nil))))), ?_⟩
  exact ⟨_, rfl, _, rfl, iteT ⟨_, rfl, t, r, x, l, st, rfl, h⟩⟩
theorem ok_part_hereE (T : RdTx w K mg) {n k : Nat} (G_read_part_here : FnOk P w K mg base (L2.CX P w) k T.read_part_here.f T.read_part_here.fd ["lexer"] (spP C CB [] ["PART"] n 1)) :
    FnOk P w K mg base (L2.CX P w) (k + 1) T.part_here.f T.part_here.fd ["lexer", "is_number"] (spP C CB [.bl false] [syP false] n 1) := by
  have G_read_number_part : FnOk P w K mg base (L2.CX P w) k T.read_number_part.f T.read_number_part.fd ["lexer"] (fun _ _ _ _ => False) := fn_no
  refine T.part_here.F.okX sc_part_here (fun vs H Q E h => ?_) (fun cdv _ outer s H vs Q E hr h => ?_)
  · obtain ⟨t, r, x, l, st, rfl, _⟩ := h
    rfl
  obtain ⟨t, r, x, l, st, rfl, h⟩ := h
  refine ⟨_, (pss_one (ps_ret (pe_ifExp (pt_val (pv 1)) (pe_call G_read_number_part (hr.mono (by omega)) rfl T.read_number_part.g T.read_number_part.F.kp T.read_number_part.b .nil passE (pa_cons (pv 0) pa_nil)) (pe_call G_read_part_here (hr.mono (by omega)) rfl T.read_part_here.g T.read_part_here.F.kp T.read_part_here.b .nil passE (pa_cons (pv 0) pa_nil))))), ?_⟩
  exact ⟨_, rfl, _, rfl, iteF ⟨_, rfl, t, r, x, l, st, rfl, h⟩⟩
theorem sc_read_number_part : FnScope ["lexer", "number"] ["lexer"] (defScope (topS 27)) := ⟨rfl, rfl, rfl, by decide +kernel, rfl, by decide +kernel, by decide +kernel⟩
theorem num_int {t : List Nat} {l : Lx} (ok : LxOk t l) (hk : l.kd = .numeral) (hl : l.tx.length ≤ 600) : ∃ i, intText? (S l.tx) = some i ∧ (S l.tx).length ≤ 640 := by
  refine ⟨_, intText_digits (x := S l.tx) (fun c hc => ?_) ?_ ?_, ?_⟩
  · rw [S_codes] at hc
    have q := List.all_eq_true.mp (ok.dg hk) c hc
    have all : (FIG.cps.toList.all fun c => decide (48 ≤ c) && decide (c ≤ 57)) = true := by decide +kernel
    have q2 := List.all_eq_true.mp all c (of_decide_eq_true q)
    rw [Bool.and_eq_true, decide_eq_true_eq, decide_eq_true_eq] at q2
    exact q2
  · rw [S_codes]
    intro z
    have q := ok.rl
    rw [hk, z] at q
    cases q
  · rw [S_len]
    omega
  · rw [S_len]
    omega
theorem not_par {t : List Nat} {l : Lx} (ok : LxOk t l) (hk : l.kd = .numeral ∨ l.kd = .name) : S l.tx ≠ ("(" : Str) := fun e => by
  have q := ok.sg (by rw [e]; decide +kernel)
  rcases hk with h | h <;> (rw [h] at q; cases q)
theorem real_ne {t : List Nat} {l : Lx} (ok : LxOk t l) (hk : l.kd = .numeral ∨ l.kd = .name) : l.tx ≠ [] := fun z => by
  have q := ok.rl
  rcases hk with h | h <;> (rw [h, z] at q; cases q)
theorem ok_read_number_part (A : LA P K mg C CB f1 cc cda) (T : RdTx w K mg) {n k : Nat} (h5 : 5 ≤ k) (G_number_here : FnOk P w K mg base (L2.CX P w) k T.number_here.f T.number_here.fd ["lexer"] (spP C CB [] ["NUM"] (n) 1)) :
    FnOk P w K mg base (L2.CX P w) (k + 1) T.read_number_part.f T.read_number_part.fd ["lexer"] (spP C CB [] ["NUMPART"] (n + 1) 1) := by
  refine T.read_number_part.F.okX sc_read_number_part (fun vs H Q E h => ?_) (fun cdv _ outer s H vs Q E hr h => ?_)
  · obtain ⟨t, r, x, l, st, rfl, _⟩ := h
    rfl
  obtain ⟨t, r, x, l, st, rfl, hL, hl, hrn, hn, hz, kk⟩ := h
  have c : Cu ⟨C, CB, t, r, x, H, E⟩ l (n + 1) l.pl ("NUMPART" :: st) H := ⟨hL, hrn, hn, Nat.le_refl _, Kp.refl _ _, hz, hl⟩
  have done : ∀ {v H' l' m j}, Cu ⟨C, CB, t, r, x, H, E⟩ l' m j st H' → IsT v H' → l.pl + 1 ≤ j → Q v H' := fun c' iv hj => kk _ _ _ iv c'.kp c'.la c'.rn (Nat.le_trans hj c'.pg)
  have nd := sc_read_number_part.nd
  refine ⟨_, (pss_cons (ps_if (pt_cmpR op_eq (pe_meth0 (pv 0) A.T.cl A.T.mWhat.mt A.g_what (hr.mono (by omega)) A.T.mWhat.b .nil pass0) pe_str (nomark _)) (pss_one (ps_ret (pe_tup (pa_cons pe_str (pa_cons (pe_callTy call_int_str (by rfl) T.m_int (by decide +kernel) (pa_cons (pe_meth0 (pv 0) A.T.cl A.T.mGo.mt A.g_go (hr.mono (by omega)) A.T.mGo.b .nil pass0) pa_nil)) pa_nil))))) pss_nil)
    (pss_cons (ps_if (pt_cmpR op_eq (pe_meth0 (pv 0) A.T.cl A.T.mWhat.mt A.g_what (hr.mono (by omega)) A.T.mWhat.b .nil pass0) pe_str (nomark _)) (pss_one (ps_ret (pe_tup (pa_cons pe_str (pa_cons (pe_meth0 (pv 0) A.T.cl A.T.mGo.mt A.g_go (hr.mono (by omega)) A.T.mGo.b .nil pass0) pa_nil))))) pss_nil)
    (pss_cons (ps_expr (pe_meth (pv 0) A.T.cl A.T.mTake.mt A.g_take (hr.mono (by omega)) A.T.mTake.b .nil passE (pa_cons pe_str pa_nil)))
    (pss_cons (ps_set (i := 1) nd rfl (.inl rfl) (pe_call G_number_here (hr.mono (by omega)) rfl T.number_here.g T.number_here.F.kp T.number_here.b .nil passE (pa_cons (pv 0) pa_nil)))
    (pss_cons (ps_expr (pe_meth (pv 0) A.T.cl A.T.mTake.mt A.g_take (hr.mono (by omega)) A.T.mTake.b .nil passE (pa_cons pe_str pa_nil)))
    (pss_one (ps_ret (pv 1)))))))), ?_⟩
  refine rd_what (g := ⟨C, CB, t, r, x, H, E⟩) rfl c ⟨rfl, _, rfl, ?_⟩
  rw [kd_num]
  by_cases e : l.kd = .numeral
  · rw [decide_eq_true e]
    refine iteT ?_
    obtain ⟨hr2, hlen⟩ := c.rn.partEat (not_par c.ok (.inl e)) (by rw [e]; rfl)
    obtain ⟨i, hi, h640⟩ := num_int c.ok e (hlen e)
    refine rd_go (g := ⟨C, CB, t, r, x, H, E⟩) rfl c fun H1 kp1 hL1 => ⟨_, i, rfl, hi, h640, fit3 (by show 2 ≤ 10; decide), fun p hp => ?_⟩
    exact done ((c.eat kp1 hL1 hr2 (real_ne c.ok (.inl e))).up hp _) IsT.new (Nat.le_refl _)
  rw [decide_eq_false e]
  refine iteF ?_
  refine rd_what (g := ⟨C, CB, t, r, x, H, E⟩) rfl c ⟨rfl, _, rfl, ?_⟩
  rw [kd_name]
  by_cases e2 : l.kd = .name
  · rw [decide_eq_true e2]
    refine iteT ?_
    obtain ⟨hr2, _⟩ := c.rn.partEat (not_par c.ok (.inr e2)) (by rw [e2]; rfl)
    refine rd_go (g := ⟨C, CB, t, r, x, H, E⟩) rfl c fun H1 kp1 hL1 => ⟨fit3 (by show 2 ≤ 10; decide), fun p hp => ?_⟩
    exact done ((c.eat kp1 hL1 hr2 (real_ne c.ok (.inr e2))).up hp _) IsT.new (Nat.le_refl _)
  rw [decide_eq_false e2]
  refine iteF ?_
  have k1 := cN_1
  refine rd_takeO (g := ⟨C, CB, t, r, x, H, E⟩) rfl c (fun hx H1 kp1 hL1 => ?_) (fun hx => ?_)
  · have c1 := (c.row (c.rn.part hx)).tok (tok_of (by decide +kernel)) (by decide +kernel) hx kp1 hL1
    refine rd_call (g := ⟨C, CB, t, r, x, H, E⟩) (syms := ["NUM"]) (d := 1) rfl c1 (by omega) fun v H2 l2 iv2 kp2 c2 => ?_
    refine rd_take (g := ⟨C, CB, t, r, x, H, E⟩) rfl c2 (tok_of (by decide +kernel)) (by decide +kernel) fun H3 _ kp3 c3 => ⟨v, rfl, done c3 (iv2.kp c2.la kp3) (by omega)⟩
  · refine c.rn.partNo hx ?_
    rw [Bool.or_eq_false_iff]
    exact ⟨beq_eq_false_iff_ne.mpr e2, beq_eq_false_iff_ne.mpr e⟩
end
end K04
end

section
set_option Elab.async false
set_option maxRecDepth 100000
set_option maxHeartbeats 4000000
set_option pp.maxSteps 2000
/-! K11: numbers, places, expressions. -/
namespace K04
open PySem L2 PyProof.Rows
section
variable {P : Program} {w : World} {K : PySem.W.Frag} {mg : Str → Option Value} {base : Heap} {C CB f1 cc cda : Addr}
theorem sc_number_here : FnScope ["lexer"] ["lexer"] (defScope (topS 28)) := ⟨rfl, rfl, rfl, by decide +kernel, rfl, by decide +kernel, by decide +kernel⟩
theorem ok_number_here (A : LA P K mg C CB f1 cc cda) (T : RdTx w K mg) {n k : Nat} (h5 : 5 ≤ k) (G_read_chain : FnOk P w K mg base (L2.CX P w) k T.read_chain.f T.read_chain.fd ["lexer", "is_number"] (spChain C CB true n)) :
    FnOk P w K mg base (L2.CX P w) (k + 1) T.number_here.f T.number_here.fd ["lexer"] (spP C CB [] ["NUM"] (n) 1) := by
  refine T.number_here.F.okX sc_number_here (fun vs H Q E h => ?_) (fun cdv _ outer s H vs Q E hr h => ?_)
  · obtain ⟨t, r, x, l, st, rfl, _⟩ := h
    rfl
  obtain ⟨t, r, x, l, st, rfl, hL, hl, hrn, hn, hz, kk⟩ := h
  have c : Cu ⟨C, CB, t, r, x, H, E⟩ l (n) l.pl ("NUM" :: st) H := ⟨hL, hrn, hn, Nat.le_refl _, Kp.refl _ _, hz, hl⟩
  have done : ∀ {v H' l' m j}, Cu ⟨C, CB, t, r, x, H, E⟩ l' m j st H' → IsT v H' → l.pl + 1 ≤ j → Q v H' := fun c' iv hj => kk _ _ _ iv c'.kp c'.la c'.rn (Nat.le_trans hj c'.pg)
  have nd := sc_number_here.nd
  refine ⟨_, (pss_one (ps_ret (pe_call G_read_chain (hr.mono (by omega)) rfl T.read_chain.g T.read_chain.F.kp T.read_chain.b .nil passE (pa_cons (pv 0) (pa_cons pe_bl pa_nil))))), ?_⟩
  refine ⟨_, rfl, t, r, x, l, st, rfl, c.la, hl, (c.row1 (b := ["NUMPART", "NUMTAIL"]) (by decide +kernel)).rn, hn, hz, fun v H1 l1 iv kp la rn hno hp => ?_⟩
  exact kk v H1 l1 iv kp la (rn.rowE (hs := hdN true) (b := []) (by decide +kernel) hno) hp
theorem sc_numbers_here : FnScope ["lexer", "found"] ["lexer"] (defScope (topS 29)) := ⟨rfl, rfl, rfl, by decide +kernel, rfl, by decide +kernel, by decide +kernel⟩
theorem lsi_put {H0 : Hp} {p : Addr} {xs : List V} {l l2 : Lx} {H H2 : Hp} {v : V} (h : LsI H0 p xs l H) (e : H2 p = some (.lst xs)) (hl : l.pl + 1 ≤ l2.pl) : LsI H0 p (xs ++ [v]) l2 (upd H2 p (.lst (xs ++ [v]))) := by
  have h1 := h.le
  exact ⟨upd_same, h.fp, by rw [List.length_append, List.length_singleton]; omega⟩
theorem ok_numbers_here (A : LA P K mg C CB f1 cc cda) (T : RdTx w K mg) {n k : Nat} (h5 : 5 ≤ k) (G_number_here : FnOk P w K mg base (L2.CX P w) k T.number_here.f T.number_here.fd ["lexer"] (spP C CB [] ["NUM"] (n) 1)) :
    FnOk P w K mg base (L2.CX P w) (k + 1) T.numbers_here.f T.numbers_here.fd ["lexer"] (spP C CB [] ["NUM", "MORENUMS"] (n) 1) := by
  refine T.numbers_here.F.okX sc_numbers_here (fun vs H Q E h => ?_) (fun cdv _ outer s H vs Q E hr h => ?_)
  · obtain ⟨t, r, x, l, st, rfl, _⟩ := h
    rfl
  obtain ⟨t, r, x, l, st, rfl, hL, hl, hrn, hn, hz, kk⟩ := h
  have c : Cu ⟨C, CB, t, r, x, H, E⟩ l (n) l.pl ("NUM" :: "MORENUMS" :: st) H := ⟨hL, hrn, hn, Nat.le_refl _, Kp.refl _ _, hz, hl⟩
  have done : ∀ {v H' l' m j}, Cu ⟨C, CB, t, r, x, H, E⟩ l' m j st H' → IsT v H' → l.pl + 1 ≤ j → Q v H' := fun c' iv hj => kk _ _ _ iv c'.kp c'.la c'.rn (Nat.le_trans hj c'.pg)
  have nd := sc_numbers_here.nd
  refine ⟨_, (pss_cons (ps_set (i := 1) nd rfl (.inl rfl) (pe_lst (pa_cons (pe_call G_number_here (hr.mono (by omega)) rfl T.number_here.g T.number_here.F.kp T.number_here.b .nil passE (pa_cons (pv 0) pa_nil)) pa_nil)))
    (pss_cons (ps_while (passes_of rfl) (pt_val (pe_meth (pv 0) A.T.cl A.T.mHas.mt A.g_has (hr.mono (by omega)) A.T.mHas.b .nil pass0 (pa_cons pe_str pa_nil))) (pss_one (ps_expr (pe_bm PySem.F.plainAttrs_list PySem.F.slot_list_append PySem.F.type_list_append mt_append (pv 1) (pa_cons (pe_call G_number_here (hr.mono (by omega)) rfl T.number_here.g T.number_here.F.kp T.number_here.b .nil passE (pa_cons (pv 0) pa_nil)) pa_nil)))))
    (pss_one (ps_ret (pe_callTy call_tuple_of (by rfl) T.m_tuple (by decide +kernel) (pa_cons (pv 1) pa_nil)))))), ?_⟩
  refine rd_call (g := ⟨C, CB, t, r, x, H, E⟩) (syms := ["NUM"]) (st := "MORENUMS" :: st) (d := 1) rfl c (Nat.le_refl n) fun v H1 l1 iv1 kp1 c1 => ⟨fit3 (by show 1 ≤ 10; decide), fun p hp => ?_⟩
  refine ⟨fun m σ H' => ∃ l2 xs, σ = [some (.ref x), some (.ref p)] ∧ m = t.length - l2.pl ∧ l.pl + 1 ≤ l2.pl ∧ Cu ⟨C, CB, t, r, x, H, E⟩ l2 n l2.pl ("MORENUMS" :: st) H' ∧ LsI H p xs l2 H',
    ⟨_, l1, [v], rfl, rfl, c1.pg, c1.here.up hp _, upd_same, c1.fresh hp, Nat.le_trans (Nat.le_add_left 1 _) c1.pg⟩, ?_⟩
  rintro m σ H2 ⟨l2, xs, rfl, rfl, hj, c2, ls⟩
  have le2 : l2.pl + l2.tx.length ≤ t.length := c2.ok.le
  refine rd_hasR (g := ⟨C, CB, t, r, x, H, E⟩) (A := "MORENUMS") (b := ["NUM", "MORENUMS"]) rfl c2 (by decide +kernel) (tok_of (by decide +kernel)) (by decide +kernel) (fun hx H3 kp3 c3 => ⟨_, rfl, iteT ?_⟩) (fun hx => ⟨_, rfl, iteF ?_⟩)
  · have h3 := lst_kp ls.hp c2.la kp3
    have p3 := c3.pg
    have le3 : _ ≤ t.length := c3.ok.le
    refine ⟨fun σ' H'' => ∃ m', m' < t.length - l2.pl ∧ ∃ l2 xs, σ' = [some (.ref x), some (.ref p)] ∧ m' = t.length - l2.pl ∧ l.pl + 1 ≤ l2.pl ∧ Cu ⟨C, CB, t, r, x, H, E⟩ l2 n l2.pl ("MORENUMS" :: st) H'' ∧ LsI H p xs l2 H'', fun _ _ h => h, ?_⟩
    refine ⟨_, rfl, lst_ty h3, rd_call (g := ⟨C, CB, t, r, x, H, E⟩) (syms := ["NUM"]) (st := "MORENUMS" :: st) (d := 1) rfl c3 (Nat.sub_le _ _) fun v4 H4 l4 iv4 kp4 c4 => ?_⟩
    have h4 := lst_kp h3 c3.la kp4
    have p4 := c4.pg
    have le4 : l4.pl + l4.tx.length ≤ t.length := c4.ok.le
    exact ⟨p, xs, v4, rfl, rfl, h4, ls.fit c2.ok hl, t.length - l4.pl, by omega, l4, _, rfl, rfl, by omega, (c4.here.weak (Nat.sub_le _ _) (Nat.le_refl _)).set h4 ls.fp _, lsi_put ls h4 (by omega)⟩
  · have c5 := c2.rowE (hs := [","]) (b := []) (by decide +kernel) (by rw [List.mem_singleton]; exact hx)
    exact ⟨_, rfl, p, xs, rfl, .inl ⟨SqL.of ls.hp, fun q hq => done (c5.up hq _) IsT.new hj⟩⟩
theorem sc_place_here : FnScope ["lexer", "name", "numbers"] ["lexer"] (defScope (topS 30)) := ⟨rfl, rfl, rfl, by decide +kernel, rfl, by decide +kernel, by decide +kernel⟩
/-- a place: a name, or a name and numbers -/
def spPlace (C CB : Addr) (n : Nat) : Sp := fun vs H Q E => ∃ t r x l st B rest, vs = [.ref x] ∧ LAt C t H x l ∧ t.length ≤ 1000000 ∧ Rn t r ("NAME" :: B :: st) l ∧ RowZ B "[" ("NUM" :: "MORENUMS" :: "]" :: rest) ∧ nest t l < n ∧ (∀ p, r = some p → Rz CB x H E p) ∧
  ∀ H' l' a tag nm xs, H' a = some (.tup (.str tag :: .str nm :: xs)) → Kp x H H' → LAt C t H' x l' → (tag = ("name" : Str) ∧ Rn t r (B :: st) l' ∧ S l'.tx ≠ ("[" : Str) ∨ tag = ("at" : Str) ∧ Rn t r (rest ++ st) l') → l.pl + 1 ≤ l'.pl → Q (.ref a) H'
theorem ok_place_here (A : LA P K mg C CB f1 cc cda) (T : RdTx w K mg) {n k : Nat} (h5 : 5 ≤ k) (G_numbers_here : FnOk P w K mg base (L2.CX P w) k T.numbers_here.f T.numbers_here.fd ["lexer"] (spP C CB [] ["NUM", "MORENUMS"] n 1)) :
    FnOk P w K mg base (L2.CX P w) (k + 1) T.place_here.f T.place_here.fd ["lexer"] (spPlace C CB n) := by
  refine T.place_here.F.okX sc_place_here (fun vs H Q E h => ?_) (fun cdv _ outer s H vs Q E hr h => ?_)
  · obtain ⟨t, r, x, l, st, _, _, rfl, _⟩ := h
    rfl
  obtain ⟨t, r, x, l, st, B, rest, rfl, hL, hl, hrn, hB, hn, hz, kk⟩ := h
  have c : Cu ⟨C, CB, t, r, x, H, E⟩ l n l.pl ("NAME" :: B :: st) H := ⟨hL, hrn, hn, Nat.le_refl _, Kp.refl _ _, hz, hl⟩
  have nd := sc_place_here.nd
  refine ⟨_, (pss_cons (ps_set (i := 1) nd rfl (.inl rfl) (pe_meth0 (pv 0) A.T.cl A.T.mName.mt A.g_name (hr.mono (by omega)) A.T.mName.b .nil passE))
    (pss_cons (ps_if (pt_not (pt_val (pe_meth (pv 0) A.T.cl A.T.mHas.mt A.g_has (hr.mono (by omega)) A.T.mHas.b .nil pass0 (pa_cons pe_str pa_nil)))) (pss_one (ps_ret (pe_tup (pa_cons pe_str (pa_cons (pv 1) pa_nil))))) pss_nil)
    (pss_cons (ps_set (i := 2) nd rfl (.inl rfl) (pe_call G_numbers_here (hr.mono (by omega)) rfl T.numbers_here.g T.numbers_here.F.kp T.numbers_here.b .nil passE (pa_cons (pv 0) pa_nil)))
    (pss_cons (ps_expr (pe_meth (pv 0) A.T.cl A.T.mTake.mt A.g_take (hr.mono (by omega)) A.T.mTake.b .nil passE (pa_cons pe_str pa_nil)))
    (pss_one (ps_ret (pe_tup (pa_cons pe_str (pa_cons (pv 1) (pa_cons (pv 2) pa_nil)))))))))), ?_⟩
  refine rd_name (g := ⟨C, CB, t, r, x, H, E⟩) rfl c fun H1 _ kp1 c1 => ?_
  refine rd_hasR (g := ⟨C, CB, t, r, x, H, E⟩) (b := "NUM" :: "MORENUMS" :: "]" :: rest) rfl c1 hB (tok_of (by decide +kernel)) (by decide +kernel) (fun hx H2 kp2 c2 => ⟨_, rfl, iteF ?_⟩) (fun hx => ⟨_, rfl, iteT ?_⟩)
  · refine rd_call (g := ⟨C, CB, t, r, x, H, E⟩) (syms := ["NUM", "MORENUMS"]) (st := "]" :: (rest ++ st)) (d := 1) rfl c2 (Nat.sub_le _ _) fun v H3 l3 iv3 kp3 c3 => ?_
    refine rd_take (g := ⟨C, CB, t, r, x, H, E⟩) rfl c3 (tok_of (by decide +kernel)) (by decide +kernel) fun H4 _ kp4 c4 => ?_
    have p4 := c4.pg
    exact ⟨_, rfl, _, rfl, fit3 (by show 3 ≤ 10; decide), fun p hp => kk _ _ p "at" _ _ upd_same (c4.up hp _).kp (c4.up hp _).la (.inr ⟨rfl, c4.rn⟩) (by omega)⟩
  · exact ⟨_, rfl, fit3 (by show 2 ≤ 10; decide), fun p hp => kk _ _ p "name" _ _ upd_same (c1.up hp _).kp (c1.up hp _).la (.inl ⟨rfl, c1.rn, hx⟩) c1.pg⟩
theorem sc_read_atom : FnScope ["lexer", "expression", "width", "number", "place"] ["lexer"] (defScope (topS 31)) := ⟨rfl, rfl, rfl, by decide +kernel, rfl, by decide +kernel, by decide +kernel⟩
theorem ok_read_atom (A : LA P K mg C CB f1 cc cda) (T : RdTx w K mg) {n k : Nat} (h5 : 5 ≤ k) (G_number_here : FnOk P w K mg base (L2.CX P w) k T.number_here.f T.number_here.fd ["lexer"] (spP C CB [] ["NUM"] (n+1) 1)) (G_place_here : FnOk P w K mg base (L2.CX P w) k T.place_here.f T.place_here.fd ["lexer"] (spPlace C CB (n+1))) (G_expression_here : FnOk P w K mg base (L2.CX P w) k T.expression_here.f T.expression_here.fd ["lexer"] (spP C CB [] ["E"] (n) 1)) (G_read_atom : FnOk P w K mg base (L2.CX P w) k T.read_atom.f T.read_atom.fd ["lexer"] (spP C CB [] ["ATOM"] (n) 1)) :
    FnOk P w K mg base (L2.CX P w) (k + 1) T.read_atom.f T.read_atom.fd ["lexer"] (spP C CB [] ["ATOM"] (n + 1) 1) := by
  refine T.read_atom.F.okX sc_read_atom (fun vs H Q E h => ?_) (fun cdv _ outer s H vs Q E hr h => ?_)
  · obtain ⟨t, r, x, l, st, rfl, _⟩ := h
    rfl
  obtain ⟨t, r, x, l, st, rfl, hL, hl, hrn, hn, hz, kk⟩ := h
  have c : Cu ⟨C, CB, t, r, x, H, E⟩ l (n + 1) l.pl ("ATOM" :: st) H := ⟨hL, hrn, hn, Nat.le_refl _, Kp.refl _ _, hz, hl⟩
  have done : ∀ {v H' l' m j}, Cu ⟨C, CB, t, r, x, H, E⟩ l' m j st H' → IsT v H' → l.pl + 1 ≤ j → Q v H' := fun c' iv hj => kk _ _ _ iv c'.kp c'.la c'.rn (Nat.le_trans hj c'.pg)
  have nd := sc_read_atom.nd
  refine ⟨_, (pss_cons (ps_if (pt_val (pe_meth (pv 0) A.T.cl A.T.mHas.mt A.g_has (hr.mono (by omega)) A.T.mHas.b .nil pass0 (pa_cons pe_str pa_nil))) (pss_cons (ps_set (i := 1) nd rfl (.inl rfl) (pe_call G_expression_here (hr.mono (by omega)) rfl T.expression_here.g T.expression_here.F.kp T.expression_here.b .nil passE (pa_cons (pv 0) pa_nil)))
    (pss_cons (ps_expr (pe_meth (pv 0) A.T.cl A.T.mTake.mt A.g_take (hr.mono (by omega)) A.T.mTake.b .nil passE (pa_cons pe_str pa_nil)))
    (pss_one (ps_ret (pv 1))))) pss_nil)
    (pss_cons (ps_if (pt_val (pe_meth (pv 0) A.T.cl A.T.mHas.mt A.g_has (hr.mono (by omega)) A.T.mHas.b .nil pass0 (pa_cons pe_str pa_nil))) (pss_cons (ps_expr (pe_meth (pv 0) A.T.cl A.T.mTake.mt A.g_take (hr.mono (by omega)) A.T.mTake.b .nil passE (pa_cons pe_str pa_nil)))
    (pss_cons (ps_set (i := 2) nd rfl (.inl rfl) (pe_call G_number_here (hr.mono (by omega)) rfl T.number_here.g T.number_here.F.kp T.number_here.b .nil passE (pa_cons (pv 0) pa_nil)))
    (pss_cons (ps_expr (pe_meth (pv 0) A.T.cl A.T.mTake.mt A.g_take (hr.mono (by omega)) A.T.mTake.b .nil passE (pa_cons pe_str pa_nil)))
    (pss_cons (ps_set (i := 3) nd rfl (.inl rfl) (pe_call G_number_here (hr.mono (by omega)) rfl T.number_here.g T.number_here.F.kp T.number_here.b .nil passE (pa_cons (pv 0) pa_nil)))
    (pss_cons (ps_expr (pe_meth (pv 0) A.T.cl A.T.mTake.mt A.g_take (hr.mono (by omega)) A.T.mTake.b .nil passE (pa_cons pe_str pa_nil)))
    (pss_one (ps_ret (pe_tup (pa_cons pe_str (pa_cons (pv 2) (pa_cons (pv 3) pa_nil))))))))))) pss_nil)
    (pss_cons (ps_set (i := 4) nd rfl (.inl rfl) (pe_call G_place_here (hr.mono (by omega)) rfl T.place_here.g T.place_here.F.kp T.place_here.b .nil passE (pa_cons (pv 0) pa_nil)))
    (pss_cons (ps_if (pt_val (pe_meth (pv 0) A.T.cl A.T.mHas.mt A.g_has (hr.mono (by omega)) A.T.mHas.b .nil pass0 (pa_cons pe_str pa_nil))) (pss_one (ps_ret (pe_tup (pa_cons pe_str (pa_cons (pv 4) (pa_cons (pe_meth0 (pv 0) A.T.cl A.T.mName.mt A.g_name (hr.mono (by omega)) A.T.mName.b .nil passE) pa_nil)))))) pss_nil)
    (pss_one (ps_ret (pe_ifExp (pt_val (pe_meth (pv 0) A.T.cl A.T.mHas.mt A.g_has (hr.mono (by omega)) A.T.mHas.b .nil pass0 (pa_cons pe_str pa_nil))) (pe_tup (pa_cons pe_str (pa_cons (pv 4) (pa_cons (pe_call G_read_atom (hr.mono (by omega)) rfl T.read_atom.g T.read_atom.F.kp T.read_atom.b .nil passE (pa_cons (pv 0) pa_nil)) pa_nil)))) (pv 4)))))))), ?_⟩
  have k1 := cN_1
  have k2 := cN_2
  refine rd_hasR (g := ⟨C, CB, t, r, x, H, E⟩) (b := ["E", ")"]) rfl c (by decide +kernel) (tok_of (by decide +kernel)) (by decide +kernel) (fun hx H1 kp1 c1 => ⟨_, rfl, iteT ?_⟩) (fun hx1 => ⟨_, rfl, iteF ?_⟩)
  · refine rd_call (g := ⟨C, CB, t, r, x, H, E⟩) (syms := ["E"]) (st := ")" :: st) (d := 1) rfl c1 (by omega) fun v H2 l2 iv2 kp2 c2 => ?_
    exact rd_take (g := ⟨C, CB, t, r, x, H, E⟩) rfl c2 (tok_of (by decide +kernel)) (by decide +kernel) fun H3 _ kp3 c3 => ⟨v, rfl, done c3 (iv2.kp c2.la kp3) (by omega)⟩
  refine rd_hasR (g := ⟨C, CB, t, r, x, H, E⟩) (b := ["(", "NUM", ",", "NUM", ")"]) rfl c (by decide +kernel) (tok_of (by decide +kernel)) (by decide +kernel) (fun hx H1 kp1 c1 => ⟨_, rfl, iteT ?_⟩) (fun hx2 => ⟨_, rfl, iteF ?_⟩)
  · refine rd_take (g := ⟨C, CB, t, r, x, H, E⟩) rfl c1 (tok_of (by decide +kernel)) (by decide +kernel) fun H2 _ kp2 c2 => ?_
    refine rd_call (g := ⟨C, CB, t, r, x, H, E⟩) (syms := ["NUM"]) (st := "," :: "NUM" :: ")" :: st) (d := 1) rfl c2 (by omega) fun v3 H3 l3 iv3 kp3 c3 => ?_
    refine rd_take (g := ⟨C, CB, t, r, x, H, E⟩) rfl c3 (tok_of (by decide +kernel)) (by decide +kernel) fun H4 _ kp4 c4 => ?_
    refine rd_call (g := ⟨C, CB, t, r, x, H, E⟩) (syms := ["NUM"]) (st := ")" :: st) (d := 1) rfl c4 (by omega) fun v5 H5 l5 iv5 kp5 c5 => ?_
    refine rd_take (g := ⟨C, CB, t, r, x, H, E⟩) rfl c5 (tok_of (by decide +kernel)) (by decide +kernel) fun H6 _ kp6 c6 => ?_
    exact ⟨_, rfl, _, rfl, fit3 (by show 3 ≤ 10; decide), fun p hp => done (c6.up hp _) IsT.new (by omega)⟩
  have c1 := c.rowE (hs := ["(", "bits"]) (b := ["NAME", "AT", "BEHIND"]) (by decide +kernel) (fun m => by
    rcases List.mem_cons.mp m with e | m
    · exact hx1 e
    · exact hx2 (List.mem_singleton.mp m))
  refine ⟨_, rfl, t, r, x, l, "BEHIND" :: st, "AT", [], rfl, c1.la, hl, c1.rn, by decide +kernel, hn, hz, fun H2 l2 a tag nm xs ha kp2 la2 hrn2 hp2 => ?_⟩
  have rn2 : Rn t r ("BEHIND" :: st) l2 := by
    rcases hrn2 with ⟨_, h, hx⟩ | ⟨_, h⟩
    · exact h.rowE (hs := ["["]) (b := []) (by decide +kernel) (by rw [List.mem_singleton]; exact hx)
    · exact h
  have c2 : Cu ⟨C, CB, t, r, x, H, E⟩ l2 (n + 1) l2.pl ("BEHIND" :: st) H2 := ⟨la2, rn2, Nat.lt_of_le_of_lt (nest_le (by omega)) hn, Nat.le_refl _, kp2, hz, hl⟩
  refine rd_hasR (g := ⟨C, CB, t, r, x, H, E⟩) (b := ["NAME"]) rfl c2 (by decide +kernel) (tok_of (by decide +kernel)) (by decide +kernel) (fun hx H3 kp3 c3 => ⟨_, rfl, iteT ?_⟩) (fun hx3 => ⟨_, rfl, iteF ?_⟩)
  · refine ⟨_, rfl, rd_name (g := ⟨C, CB, t, r, x, H, E⟩) rfl c3 fun H4 _ kp4 c4 => ⟨fit3 (by show 3 ≤ 10; decide), fun p hp => done (c4.up hp _) IsT.new (by omega)⟩⟩
  refine rd_hasR (g := ⟨C, CB, t, r, x, H, E⟩) (b := ["ATOM"]) rfl c2 (by decide +kernel) (tok_of (by decide +kernel)) (by decide +kernel) (fun hx H3 kp3 c3 => ⟨_, rfl, iteT ?_⟩) (fun hx4 => ⟨_, rfl, iteF ?_⟩)
  · refine ⟨_, rfl, rd_call (g := ⟨C, CB, t, r, x, H, E⟩) (syms := ["ATOM"]) (st := st) (d := 1) rfl c3 (by omega) fun v4 H4 l4 iv4 kp4 c4 => ⟨fit3 (by show 3 ≤ 10; decide), fun p hp => done (c4.up hp _) IsT.new (by omega)⟩⟩
  have c3 := c2.rowE (hs := [".", "@"]) (b := []) (by decide +kernel) (fun m => by
    rcases List.mem_cons.mp m with e | m
    · exact hx3 e
    · exact hx4 (List.mem_singleton.mp m))
  exact ⟨_, rfl, done c3 ⟨a, _, rfl, ha⟩ hp2⟩
end
end K04
end

section
set_option Elab.async false
set_option maxRecDepth 100000
set_option maxHeartbeats 4000000
set_option pp.maxSteps 2000
/-! K12: expressions, what an item is made of. -/
namespace K04
open PySem L2 PyProof.Rows
section
variable {P : Program} {w : World} {K : PySem.W.Frag} {mg : Str → Option Value} {base : Heap} {C CB f1 cc cda : Addr}
theorem ahT_of : ((["~", "&", "|", "^"] : List Str).all fun z => match ahT.lookup z with | some (.str _) => true | _ => false) = true := by decide +kernel
theorem ahT_in {z : Str} (h : z ∈ (["~", "&", "|", "^"] : List Str)) : ∃ y, ahT.lookup z = some (.str y) := by
  have q := List.all_eq_true.mp ahT_of z h
  cases e : ahT.lookup z with
  | none => rw [e] at q; cases q
  | some v =>
    rw [e] at q
    cases v with
    | str y => exact ⟨y, rfl⟩
    | _ => cases q
theorem sg_ne {l : Lx} {zs : List Str} (h : S l.tx ∈ zs) (hs : (zs.all fun z => z != S []) = true) : l.tx ≠ [] := fun e => by
  have q := List.all_eq_true.mp hs _ h
  rw [e] at q
  rw [bne_self_eq_false] at q
  cases q
theorem sc_read_part_here : FnScope ["lexer", "ahead", "expression", "low", "word"] ["lexer"] (defScope (topS 32)) := ⟨rfl, rfl, rfl, by decide +kernel, rfl, by decide +kernel, by decide +kernel⟩
theorem ok_read_part_here (A : LA P K mg C CB f1 cc cda) (T : RdTx w K mg) {n k : Nat} (h5 : 5 ≤ k) (G_number_here : FnOk P w K mg base (L2.CX P w) k T.number_here.f T.number_here.fd ["lexer"] (spP C CB [] ["NUM"] (n) 1)) (G_read_atom : FnOk P w K mg base (L2.CX P w) k T.read_atom.f T.read_atom.fd ["lexer"] (spP C CB [] ["ATOM"] (n) 1)) :
    FnOk P w K mg base (L2.CX P w) (k + 1) T.read_part_here.f T.read_part_here.fd ["lexer"] (spP C CB [] ["PART"] (n) 1) := by
  refine T.read_part_here.F.okX sc_read_part_here (fun vs H Q E h => ?_) (fun cdv _ outer s H vs Q E hr h => ?_)
  · obtain ⟨t, r, x, l, st, rfl, _⟩ := h
    rfl
  obtain ⟨t, r, x, l, st, rfl, hL, hl, hrn, hn, hz, kk⟩ := h
  have c : Cu ⟨C, CB, t, r, x, H, E⟩ l (n) l.pl ("PART" :: st) H := ⟨hL, hrn, hn, Nat.le_refl _, Kp.refl _ _, hz, hl⟩
  have done : ∀ {v H' l' m j}, Cu ⟨C, CB, t, r, x, H, E⟩ l' m j st H' → IsT v H' → l.pl + 1 ≤ j → Q v H' := fun c' iv hj => kk _ _ _ iv c'.kp c'.la c'.rn (Nat.le_trans hj c'.pg)
  have nd := sc_read_part_here.nd
  refine ⟨_, (pss_cons (ps_set (i := 1) nd rfl (.inl rfl) (pe_lst pa_nil))
    (pss_cons (ps_while (passes_of rfl) (pt_val (pe_meth (pv 0) A.T.cl A.T.mOne.mt A.g_is_one_of (hr.mono (by omega)) A.T.mOne.b .nil pass0 (pa_cons (pe_tup (pa_cons pe_str (pa_cons pe_str (pa_cons pe_str (pa_cons pe_str pa_nil))))) pa_nil))) (pss_one (ps_expr (pe_bm PySem.F.plainAttrs_list PySem.F.slot_list_append PySem.F.type_list_append mt_append (pv 1) (pa_cons (pe_ix ix_kdict (pe_glob (v := .ref T.aAHEAD_WORDS) rfl T.gAHEAD_WORDS rfl) (pe_meth0 (pv 0) A.T.cl A.T.mGo.mt A.g_go (hr.mono (by omega)) A.T.mGo.b .nil pass0) (fun _ _ => rfl)) pa_nil)))))
    (pss_cons (ps_set (i := 2) nd rfl (.inl rfl) (pe_call G_read_atom (hr.mono (by omega)) rfl T.read_atom.g T.read_atom.F.kp T.read_atom.b .nil passE (pa_cons (pv 0) pa_nil)))
    (pss_cons (ps_while (passes_of rfl) (pt_val (pe_meth (pv 0) A.T.cl A.T.mHas.mt A.g_has (hr.mono (by omega)) A.T.mHas.b .nil pass0 (pa_cons pe_str pa_nil))) (pss_cons (ps_set (i := 3) nd rfl (.inl rfl) (pe_call G_number_here (hr.mono (by omega)) rfl T.number_here.g T.number_here.F.kp T.number_here.b .nil passE (pa_cons (pv 0) pa_nil)))
    (pss_cons (ps_expr (pe_meth (pv 0) A.T.cl A.T.mTake.mt A.g_take (hr.mono (by omega)) A.T.mTake.b .nil passE (pa_cons pe_str pa_nil)))
    (pss_cons (ps_set (i := 2) nd rfl (.inl rfl) (pe_tup (pa_cons pe_str (pa_cons (pv 2) (pa_cons (pv 3) (pa_cons (pe_call G_number_here (hr.mono (by omega)) rfl T.number_here.g T.number_here.F.kp T.number_here.b .nil passE (pa_cons (pv 0) pa_nil)) pa_nil))))))
    (pss_one (ps_expr (pe_meth (pv 0) A.T.cl A.T.mTake.mt A.g_take (hr.mono (by omega)) A.T.mTake.b .nil passE (pa_cons pe_str pa_nil))))))))
    (pss_cons (ps_for (passes_of rfl) rfl (pi_list (pe_revL (pv 1))) (pg_name (i := 4) nd rfl (.inl rfl)) (pss_one (ps_set (i := 2) nd rfl (.inl rfl) (pe_tup (pa_cons (pv 4) (pa_cons (pv 2) pa_nil))))))
    (pss_one (ps_ret (pv 2)))))))), ?_⟩
  refine ⟨fit3 (Nat.zero_le _), fun p hp => ?_⟩
  refine ⟨fun m σ H' => ∃ l2 xs, σ = [some (.ref x), some (.ref p), none, none, none] ∧ m = t.length - l2.pl ∧ l.pl ≤ l2.pl ∧ Cu ⟨C, CB, t, r, x, H, E⟩ l2 n l2.pl ("PART" :: st) H' ∧ LsI H p xs l2 H',
    ⟨_, l, [], rfl, rfl, Nat.le_refl _, c.up hp _, upd_same, c.fresh hp, Nat.zero_le _⟩, ?_⟩
  rintro m σ H2 ⟨l2, xs, rfl, rfl, hj, c2, ls⟩
  have le2 : l2.pl + l2.tx.length ≤ t.length := c2.ok.le
  obtain ⟨dx2, q2, hx2, _⟩ := c2.ins
  refine ⟨_, rfl, x, dx2, _, rfl, hx2, lfs_no t q2 (by decide +kernel) (by decide +kernel), fit3 (by show 4 ≤ 10; decide), fun u hu => ?_⟩
  have c3 := c2.up hu (.tup [.str "~", .str "&", .str "|", .str "^"])
  have h3 := same_up hu (.tup [.str "~", .str "&", .str "|", .str "^"]) _ _ ls.hp
  have tu : (upd H2 u (.tup [.str "~", .str "&", .str "|", .str "^"])) u = some (.tup [.str "~", .str "&", .str "|", .str "^"]) := upd_same
  generalize upd H2 u (.tup [.str "~", .str "&", .str "|", .str "^"]) = H3 at c3 h3 tu ⊢
  refine ⟨t, x, l2, u, ["~", "&", "|", "^"], rfl, c3.la, SqT.of tu, fun H4 sm4 => ⟨_, rfl, ?_⟩⟩
  have c4 := c3.same sm4
  have h4 := sm4 _ _ h3
  rw [oneOf_sg c4.ok (by decide +kernel)]
  by_cases hin : S l2.tx ∈ (["~", "&", "|", "^"] : List Str)
  · rw [decide_eq_true hin]
    refine iteT ?_
    refine ⟨fun σ' H'' => ∃ m', m' < t.length - l2.pl ∧ ∃ l2 xs, σ' = [some (.ref x), some (.ref p), none, none, none] ∧ m' = t.length - l2.pl ∧ l.pl ≤ l2.pl ∧ Cu ⟨C, CB, t, r, x, H, E⟩ l2 n l2.pl ("PART" :: st) H'' ∧ LsI H p xs l2 H'', fun _ _ h => h, ?_⟩
    have c5 := c4.rowA (b := ["ANY", "PART"]) (by decide +kernel) hin
    have hne := sg_ne hin (by decide +kernel)
    obtain ⟨y, hy⟩ := ahT_in hin
    refine ⟨_, rfl, lst_ty h4, rd_go (g := ⟨C, CB, t, r, x, H, E⟩) rfl c5 fun H6 kp6 hL6 => ?_⟩
    have c6 := (c5.eat kp6 hL6 (c5.rn.any hne) hne).weak (Nat.sub_le n _) (Nat.le_refl (l2.pl + 1))
    have h6 := lst_kp h4 c4.la kp6
    have p6 : l2.pl + 1 ≤ (nx t l2).pl := c6.pg
    have le6 : (nx t l2).pl + (nx t l2).tx.length ≤ t.length := c6.ok.le
    have ltx : 0 < l2.tx.length := List.length_pos_iff.mpr hne
    refine ⟨_, _, _, rfl, rfl, T.kAHEAD_WORDS.there hy, p, xs, .str y, rfl, rfl, h6, ls.fit c2.ok hl, t.length - (nx t l2).pl, by omega, nx t l2, _, rfl, rfl, by omega, c6.here.set h6 ls.fp _, lsi_put ls h6 (by omega)⟩
  rw [decide_eq_false hin]
  refine iteF ?_
  have c5 := c4.rowE (b := ["ATOM", "CUTS"]) (by decide +kernel) hin
  refine rd_call (g := ⟨C, CB, t, r, x, H, E⟩) (syms := ["ATOM"]) (st := "CUTS" :: st) (d := 1) rfl c5 (Nat.le_refl n) fun v6 H6 l6 iv6 kp6 c6 => ?_
  have h6 := lst_kp h4 c5.la kp6
  have p6 := c6.pg
  have le5 : l2.pl ≤ t.length := Nat.le_trans (Nat.le_add_right _ _) le2
  -- the cuts
  refine ⟨fun m σ H' => ∃ l2 v o3 o4, σ = [some (.ref x), some (.ref p), some v, o3, o4] ∧ m = t.length - l2.pl ∧ l.pl + 1 ≤ l2.pl ∧ Cu ⟨C, CB, t, r, x, H, E⟩ l2 n l2.pl ("CUTS" :: st) H' ∧ H' p = some (.lst xs) ∧ IsT v H',
    ⟨_, l6, v6, _, _, rfl, rfl, by omega, c6.here, h6, iv6⟩, ?_⟩
  clear iv6 h6 p6 c6 kp6
  rintro m σ H7 ⟨l7, v7, o3, o4, rfl, rfl, hj7, c7, h7, iv7⟩
  have le7 : l7.pl + l7.tx.length ≤ t.length := c7.ok.le
  refine rd_hasR (g := ⟨C, CB, t, r, x, H, E⟩) (b := ["NUM", ":", "NUM", "}", "CUTS"]) rfl c7 (by decide +kernel) (tok_of (by decide +kernel)) (by decide +kernel) (fun hx H8 kp8 c8 => ⟨_, rfl, iteT ?_⟩) (fun hx => ⟨_, rfl, iteF ?_⟩)
  · refine ⟨fun σ' H'' => ∃ m', m' < t.length - l7.pl ∧ ∃ l2 v o3 o4, σ' = [some (.ref x), some (.ref p), some v, o3, o4] ∧ m' = t.length - l2.pl ∧ l.pl + 1 ≤ l2.pl ∧ Cu ⟨C, CB, t, r, x, H, E⟩ l2 n l2.pl ("CUTS" :: st) H'' ∧ H'' p = some (.lst xs) ∧ IsT v H'', fun _ _ h => h, ?_⟩
    have h8 := lst_kp h7 c7.la kp8
    refine rd_call (g := ⟨C, CB, t, r, x, H, E⟩) (syms := ["NUM"]) (st := ":" :: "NUM" :: "}" :: "CUTS" :: st) (d := 1) rfl c8 (by omega) fun v9 H9 l9 iv9 kp9 c9 => ?_
    have h9 := lst_kp h8 c8.la kp9
    refine rd_take (g := ⟨C, CB, t, r, x, H, E⟩) rfl c9 (tok_of (by decide +kernel)) (by decide +kernel) fun H10 _ kp10 c10 => ?_
    have h10 := lst_kp h9 c9.la kp10
    refine ⟨_, rfl, _, rfl, rd_call (g := ⟨C, CB, t, r, x, H, E⟩) (syms := ["NUM"]) (st := "}" :: "CUTS" :: st) (d := 1) rfl c10 (by omega) fun v11 H11 l11 iv11 kp11 c11 => ⟨fit3 (by show 4 ≤ 10; decide), fun q hq => ?_⟩⟩
    have h11 := lst_kp h10 c10.la kp11
    have c12 := c11.up hq (.tup [.str "cut", v7, v9, v11])
    have h12 := same_up hq (.tup [.str "cut", v7, v9, v11]) _ _ h11
    have i12 : IsT (.ref q) (upd H11 q (.tup [.str "cut", v7, v9, v11])) := IsT.new
    generalize upd H11 q (.tup [.str "cut", v7, v9, v11]) = H12 at c12 h12 i12 ⊢
    refine rd_take (g := ⟨C, CB, t, r, x, H, E⟩) rfl c12 (tok_of (by decide +kernel)) (by decide +kernel) fun H13 _ kp13 c13 => ?_
    have h13 := lst_kp h12 c12.la kp13
    have p13 : l7.pl + 1 + 1 + 1 + 1 + 1 ≤ (nx t l11).pl := c13.pg
    have le13 : (nx t l11).pl + (nx t l11).tx.length ≤ t.length := c13.ok.le
    exact ⟨t.length - (nx t l11).pl, by omega, nx t l11, _, _, _, rfl, rfl, by omega, c13.here.weak (by omega) (Nat.le_refl _), h13, i12.kp c12.la kp13⟩
  have c8 := c7.rowE (hs := ["{"]) (b := []) (by decide +kernel) (by rw [List.mem_singleton]; exact hx)
  -- for word in ahead[::-1]
  refine ⟨_, rfl, p, xs, rfl, SqL.of h7, fun q hq => ⟨q, rfl, ⟨_, SqL.of upd_same⟩, for_list (xs := xs.reverse) (fun _ σ H' => ∃ v o4, σ = [some (.ref x), some (.ref p), some v, o3, o4] ∧ Cu ⟨C, CB, t, r, x, H, E⟩ l7 n l7.pl st H' ∧ H' q = some (.lst xs.reverse) ∧ IsT v H')
    ⟨v7, _, rfl, c8.up hq _, upd_same, iv7.tk (Tk.up hq _)⟩ (fun i σ H' _ ⟨_, _, _, _, h, _⟩ => SqL.of h) (fun i y σ H' _ ⟨v, o, e, cc, h, iv⟩ => ?_) (fun σ H' ⟨v, o, e, cc, h, iv⟩ => ?_)⟩⟩
  · subst e
    exact ⟨_, rfl, _, rfl, fit3 (by show 2 ≤ 10; decide), fun q2 hq2 => ⟨_, _, rfl, cc.up hq2 _, same_up hq2 _ _ _ h, IsT.new⟩⟩
  · subst e
    exact ⟨_, rfl, done cc iv hj7⟩
theorem sc_expression_here : FnScope ["lexer", "expression", "one"] ["lexer"] (defScope (topS 33)) := ⟨rfl, rfl, rfl, by decide +kernel, rfl, by decide +kernel, by decide +kernel⟩
theorem ok_expression_here (A : LA P K mg C CB f1 cc cda) (T : RdTx w K mg) {n k : Nat} (h5 : 5 ≤ k) (G_read_chain : FnOk P w K mg base (L2.CX P w) k T.read_chain.f T.read_chain.fd ["lexer", "is_number"] (spChain C CB false (n+1))) (G_expression_here : FnOk P w K mg base (L2.CX P w) k T.expression_here.f T.expression_here.fd ["lexer"] (spP C CB [] ["E"] (n) 1)) :
    FnOk P w K mg base (L2.CX P w) (k + 1) T.expression_here.f T.expression_here.fd ["lexer"] (spP C CB [] ["E"] (n + 1) 1) := by
  refine T.expression_here.F.okX sc_expression_here (fun vs H Q E h => ?_) (fun cdv _ outer s H vs Q E hr h => ?_)
  · obtain ⟨t, r, x, l, st, rfl, _⟩ := h
    rfl
  obtain ⟨t, r, x, l, st, rfl, hL, hl, hrn, hn, hz, kk⟩ := h
  have c : Cu ⟨C, CB, t, r, x, H, E⟩ l (n + 1) l.pl ("E" :: st) H := ⟨hL, hrn, hn, Nat.le_refl _, Kp.refl _ _, hz, hl⟩
  have done : ∀ {v H' l' m j}, Cu ⟨C, CB, t, r, x, H, E⟩ l' m j st H' → IsT v H' → l.pl + 1 ≤ j → Q v H' := fun c' iv hj => kk _ _ _ iv c'.kp c'.la c'.rn (Nat.le_trans hj c'.pg)
  have nd := sc_expression_here.nd
  refine ⟨_, (pss_cons (ps_set (i := 1) nd rfl (.inl rfl) (pe_call G_read_chain (hr.mono (by omega)) rfl T.read_chain.g T.read_chain.F.kp T.read_chain.b .nil passE (pa_cons (pv 0) (pa_cons pe_bl pa_nil))))
    (pss_cons (ps_if (pt_not (pt_val (pe_meth (pv 0) A.T.cl A.T.mHas.mt A.g_has (hr.mono (by omega)) A.T.mHas.b .nil pass0 (pa_cons pe_str pa_nil)))) (pss_one (ps_ret (pv 1))) pss_nil)
    (pss_cons (ps_set (i := 2) nd rfl (.inl rfl) (pe_call G_expression_here (hr.mono (by omega)) rfl T.expression_here.g T.expression_here.F.kp T.expression_here.b .nil passE (pa_cons (pv 0) pa_nil)))
    (pss_cons (ps_expr (pe_meth (pv 0) A.T.cl A.T.mTake.mt A.g_take (hr.mono (by omega)) A.T.mTake.b .nil passE (pa_cons pe_str pa_nil)))
    (pss_one (ps_ret (pe_tup (pa_cons pe_str (pa_cons (pv 1) (pa_cons (pv 2) (pa_cons (pe_call G_expression_here (hr.mono (by omega)) rfl T.expression_here.g T.expression_here.F.kp T.expression_here.b .nil passE (pa_cons (pv 0) pa_nil)) pa_nil))))))))))), ?_⟩
  have k3 := cN_3
  refine ⟨_, rfl, t, r, x, l, st, rfl, c.la, hl, (c.row1 (b := ["PART", "TAIL"]) (by decide +kernel)).rn, hn, hz, fun v H1 l1 iv kp la rn hno hp => ?_⟩
  have c1 : Cu ⟨C, CB, t, r, x, H, E⟩ l1 (n + 1) l1.pl ("TAIL" :: st) H1 := ⟨la, rn, Nat.lt_of_le_of_lt (nest_le (by omega)) hn, Nat.le_refl _, kp, hz, hl⟩
  refine rd_hasR (g := ⟨C, CB, t, r, x, H, E⟩) (b := ["E", ":", "E"]) rfl c1 (by decide +kernel) (tok_of (by decide +kernel)) (by decide +kernel) (fun hx H2 kp2 c2 => ⟨_, rfl, iteF ?_⟩) (fun hx => ⟨_, rfl, iteT ?_⟩)
  · refine rd_call (g := ⟨C, CB, t, r, x, H, E⟩) (syms := ["E"]) (st := ":" :: "E" :: st) (d := 1) rfl c2 (by omega) fun v3 H3 l3 iv3 kp3 c3 => ?_
    refine rd_take (g := ⟨C, CB, t, r, x, H, E⟩) rfl c3 (tok_of (by decide +kernel)) (by decide +kernel) fun H4 _ kp4 c4 => ?_
    exact ⟨_, rfl, _, rfl, rd_call (g := ⟨C, CB, t, r, x, H, E⟩) (syms := ["E"]) (st := st) (d := 1) rfl c4 (by omega) fun v5 H5 l5 iv5 kp5 c5 => ⟨fit3 (by show 4 ≤ 10; decide), fun p hp5 => done (c5.up hp5 _) IsT.new (by omega)⟩⟩
  · have c2 := c1.rowE (hs := hdN false ++ (["?"] : List Str)) (b := []) (by decide +kernel) (fun m => by
      rcases List.mem_append.mp m with m | m
      · exact hno m
      · exact hx (List.mem_singleton.mp m))
    exact ⟨_, rfl, done c2 iv hp⟩
theorem sc_sizes_here : FnScope ["lexer"] ["lexer"] (defScope (topS 34)) := ⟨rfl, rfl, rfl, by decide +kernel, rfl, by decide +kernel, by decide +kernel⟩
theorem ok_sizes_here (A : LA P K mg C CB f1 cc cda) (T : RdTx w K mg) {n k : Nat} (h5 : 5 ≤ k) (G_numbers_here : FnOk P w K mg base (L2.CX P w) k T.numbers_here.f T.numbers_here.fd ["lexer"] (spP C CB [] ["NUM", "MORENUMS"] (n) 1)) :
    FnOk P w K mg base (L2.CX P w) (k + 1) T.sizes_here.f T.sizes_here.fd ["lexer"] (spP C CB [] ["SIZES"] (n) 0) := by
  refine T.sizes_here.F.okX sc_sizes_here (fun vs H Q E h => ?_) (fun cdv _ outer s H vs Q E hr h => ?_)
  · obtain ⟨t, r, x, l, st, rfl, _⟩ := h
    rfl
  obtain ⟨t, r, x, l, st, rfl, hL, hl, hrn, hn, hz, kk⟩ := h
  have c : Cu ⟨C, CB, t, r, x, H, E⟩ l (n) l.pl ("SIZES" :: st) H := ⟨hL, hrn, hn, Nat.le_refl _, Kp.refl _ _, hz, hl⟩
  have done : ∀ {v H' l' m j}, Cu ⟨C, CB, t, r, x, H, E⟩ l' m j st H' → IsT v H' → l.pl + 0 ≤ j → Q v H' := fun c' iv hj => kk _ _ _ iv c'.kp c'.la c'.rn (Nat.le_trans hj c'.pg)
  have nd := sc_sizes_here.nd
  refine ⟨_, (pss_one (ps_ret (pe_ifExp (pt_val (pe_meth (pv 0) A.T.cl A.T.mHas.mt A.g_has (hr.mono (by omega)) A.T.mHas.b .nil pass0 (pa_cons pe_str pa_nil))) (pe_call G_numbers_here (hr.mono (by omega)) rfl T.numbers_here.g T.numbers_here.F.kp T.numbers_here.b .nil passE (pa_cons (pv 0) pa_nil)) (pe_tup pa_nil)))), ?_⟩
  refine rd_hasR (g := ⟨C, CB, t, r, x, H, E⟩) (b := ["NUM", "MORENUMS"]) rfl c (by decide +kernel) (tok_of (by decide +kernel)) (by decide +kernel) (fun hx H2 kp2 c2 => ⟨_, rfl, iteT ?_⟩) (fun hx => ⟨_, rfl, iteF ?_⟩)
  · exact rd_call (g := ⟨C, CB, t, r, x, H, E⟩) (syms := ["NUM", "MORENUMS"]) (st := st) (d := 1) rfl c2 (Nat.sub_le _ _) fun v3 H3 l3 iv3 kp3 c3 => done c3 iv3 (by omega)
  · have c2 := c.rowE (hs := ["size"]) (b := []) (by decide +kernel) (by rw [List.mem_singleton]; exact hx)
    exact ⟨fit3 (Nat.zero_le _), fun p hp => done (c2.up hp _) IsT.new (Nat.le_refl _)⟩
theorem sc_width_here : FnScope ["lexer"] ["lexer"] (defScope (topS 36)) := ⟨rfl, rfl, rfl, by decide +kernel, rfl, by decide +kernel, by decide +kernel⟩
theorem ok_width_here (A : LA P K mg C CB f1 cc cda) (T : RdTx w K mg) {n k : Nat} (h5 : 5 ≤ k) (G_number_here : FnOk P w K mg base (L2.CX P w) k T.number_here.f T.number_here.fd ["lexer"] (spP C CB [] ["NUM"] (n) 1)) :
    FnOk P w K mg base (L2.CX P w) (k + 1) T.width_here.f T.width_here.fd ["lexer"] (spP C CB [] ["bits", "NUM"] (n) 1) := by
  refine T.width_here.F.okX sc_width_here (fun vs H Q E h => ?_) (fun cdv _ outer s H vs Q E hr h => ?_)
  · obtain ⟨t, r, x, l, st, rfl, _⟩ := h
    rfl
  obtain ⟨t, r, x, l, st, rfl, hL, hl, hrn, hn, hz, kk⟩ := h
  have c : Cu ⟨C, CB, t, r, x, H, E⟩ l (n) l.pl ("bits" :: "NUM" :: st) H := ⟨hL, hrn, hn, Nat.le_refl _, Kp.refl _ _, hz, hl⟩
  have done : ∀ {v H' l' m j}, Cu ⟨C, CB, t, r, x, H, E⟩ l' m j st H' → IsT v H' → l.pl + 1 ≤ j → Q v H' := fun c' iv hj => kk _ _ _ iv c'.kp c'.la c'.rn (Nat.le_trans hj c'.pg)
  have nd := sc_width_here.nd
  refine ⟨_, (pss_cons (ps_expr (pe_meth (pv 0) A.T.cl A.T.mTake.mt A.g_take (hr.mono (by omega)) A.T.mTake.b .nil passE (pa_cons pe_str pa_nil)))
    (pss_one (ps_ret (pe_call G_number_here (hr.mono (by omega)) rfl T.number_here.g T.number_here.F.kp T.number_here.b .nil passE (pa_cons (pv 0) pa_nil))))), ?_⟩
  refine rd_take (g := ⟨C, CB, t, r, x, H, E⟩) rfl c (tok_of (by decide +kernel)) (by decide +kernel) fun H1 _ kp1 c1 => ?_
  exact rd_call (g := ⟨C, CB, t, r, x, H, E⟩) (syms := ["NUM"]) (st := st) (d := 1) rfl c1 (Nat.sub_le _ _) fun v3 H3 l3 iv3 kp3 c3 => done c3 iv3 (by omega)
theorem sc_end_here : FnScope ["lexer", "item"] ["lexer", "item"] (defScope (topS 35)) := ⟨rfl, rfl, rfl, by decide +kernel, rfl, by decide +kernel, by decide +kernel⟩
def spEnd (C CB : Addr) (n : Nat) : Sp := fun vs H Q E => ∃ v, IsT v H ∧ spP C CB [v] [";"] n 1 vs H Q E
theorem ok_end_here (A : LA P K mg C CB f1 cc cda) (T : RdTx w K mg) {n k : Nat} (h5 : 5 ≤ k) : FnOk P w K mg base (L2.CX P w) (k + 1) T.end_here.f T.end_here.fd ["lexer", "item"] (spEnd C CB n) := by
  refine T.end_here.F.okX sc_end_here (fun vs H Q E h => ?_) (fun cdv _ outer s H vs Q E hr h => ?_)
  · obtain ⟨v, _, t, r, x, l, st, rfl, _⟩ := h
    rfl
  obtain ⟨v, iv, t, r, x, l, st, rfl, hL, hl, hrn, hn, hz, kk⟩ := h
  have c : Cu ⟨C, CB, t, r, x, H, E⟩ l n l.pl (";" :: st) H := ⟨hL, hrn, hn, Nat.le_refl _, Kp.refl _ _, hz, hl⟩
  have nd := sc_end_here.nd
  refine ⟨_, (pss_cons (ps_expr (pe_meth (pv 0) A.T.cl A.T.mTake.mt A.g_take (hr.mono (by omega)) A.T.mTake.b .nil passE (pa_cons pe_str pa_nil)))
    (pss_one (ps_ret (pv 1)))), ?_⟩
  exact rd_take (g := ⟨C, CB, t, r, x, H, E⟩) rfl c (tok_of (by decide +kernel)) (by decide +kernel) fun H1 _ kp1 c1 => ⟨v, rfl, kk _ _ _ (iv.kp c.la kp1) c1.kp c1.la c1.rn c1.pg⟩
theorem rd_end {g : Gh} {l : Lx} {m j n : Nat} {st : List Str} {H : Hp} {Q : VK} {v : V} (iv : IsT v H) (c : Cu g l m j (";" :: st) H) (hm : m ≤ n) (k : ∀ v H' l', IsT v H' → Kp g.x H H' → Cu g l' m (j + 1) st H' → Q v H') :
    spEnd g.C g.CB n [.ref g.x, v] H Q g.E := by
  refine ⟨v, iv, g.t, g.r, g.x, l, st, rfl, c.la, c.hl, c.rn, Nat.lt_of_lt_of_le c.ne hm, fun p h => c.rz h, fun v H' l' iv kp hL hr hp => k v H' l' iv kp ?_⟩
  have h1 : nest g.t l' ≤ nest g.t l := nest_le (by omega)
  have h2 := c.ne
  have h3 := c.pg
  exact ⟨hL, hr, by omega, by omega, c.kp.trans kp, c.hz, c.hl⟩
theorem sc_reg_here : FnScope ["lexer", "name", "width", "start"] ["lexer"] (defScope (topS 37)) := ⟨rfl, rfl, rfl, by decide +kernel, rfl, by decide +kernel, by decide +kernel⟩
theorem ok_reg_here (A : LA P K mg C CB f1 cc cda) (T : RdTx w K mg) {n k : Nat} (h5 : 5 ≤ k) (G_number_here : FnOk P w K mg base (L2.CX P w) k T.number_here.f T.number_here.fd ["lexer"] (spP C CB [] ["NUM"] (n) 1)) (G_width_here : FnOk P w K mg base (L2.CX P w) k T.width_here.f T.width_here.fd ["lexer"] (spP C CB [] ["bits", "NUM"] (n) 1)) (G_expression_here : FnOk P w K mg base (L2.CX P w) k T.expression_here.f T.expression_here.fd ["lexer"] (spP C CB [] ["E"] (n) 1)) :
    FnOk P w K mg base (L2.CX P w) (k + 1) T.reg_here.f T.reg_here.fd ["lexer"] (spP C CB [] ["NAME", "bits", "NUM", "=", "NUM", "<-", "E"] (n) 1) := by
  refine T.reg_here.F.okX sc_reg_here (fun vs H Q E h => ?_) (fun cdv _ outer s H vs Q E hr h => ?_)
  · obtain ⟨t, r, x, l, st, rfl, _⟩ := h
    rfl
  obtain ⟨t, r, x, l, st, rfl, hL, hl, hrn, hn, hz, kk⟩ := h
  have c : Cu ⟨C, CB, t, r, x, H, E⟩ l (n) l.pl ("NAME" :: "bits" :: "NUM" :: "=" :: "NUM" :: "<-" :: "E" :: st) H := ⟨hL, hrn, hn, Nat.le_refl _, Kp.refl _ _, hz, hl⟩
  have done : ∀ {v H' l' m j}, Cu ⟨C, CB, t, r, x, H, E⟩ l' m j st H' → IsT v H' → l.pl + 1 ≤ j → Q v H' := fun c' iv hj => kk _ _ _ iv c'.kp c'.la c'.rn (Nat.le_trans hj c'.pg)
  have nd := sc_reg_here.nd
  refine ⟨_, (pss_cons (ps_par (i := 1) (j := 2) rfl nd rfl rfl (by decide) rfl rfl (pa_cons (pe_meth0 (pv 0) A.T.cl A.T.mName.mt A.g_name (hr.mono (by omega)) A.T.mName.b .nil passE) (pa_cons (pe_call G_width_here (hr.mono (by omega)) rfl T.width_here.g T.width_here.F.kp T.width_here.b .nil passE (pa_cons (pv 0) pa_nil)) pa_nil)) (by rfl))
    (pss_cons (ps_expr (pe_meth (pv 0) A.T.cl A.T.mTake.mt A.g_take (hr.mono (by omega)) A.T.mTake.b .nil passE (pa_cons pe_str pa_nil)))
    (pss_cons (ps_set (i := 3) nd rfl (.inl rfl) (pe_call G_number_here (hr.mono (by omega)) rfl T.number_here.g T.number_here.F.kp T.number_here.b .nil passE (pa_cons (pv 0) pa_nil)))
    (pss_cons (ps_expr (pe_meth (pv 0) A.T.cl A.T.mTake.mt A.g_take (hr.mono (by omega)) A.T.mTake.b .nil passE (pa_cons pe_str pa_nil)))
    (pss_one (ps_ret (pe_tup (pa_cons pe_str (pa_cons (pv 1) (pa_cons (pv 2) (pa_cons (pv 3) (pa_cons (pe_call G_expression_here (hr.mono (by omega)) rfl T.expression_here.g T.expression_here.F.kp T.expression_here.b .nil passE (pa_cons (pv 0) pa_nil)) pa_nil)))))))))))), ?_⟩
  refine rd_name (g := ⟨C, CB, t, r, x, H, E⟩) rfl c fun H1 _ kp1 c1 => ?_
  refine rd_call (g := ⟨C, CB, t, r, x, H, E⟩) (syms := ["bits", "NUM"]) (st := "=" :: "NUM" :: "<-" :: "E" :: st) (d := 1) rfl c1 (Nat.le_refl _) fun v2 H2 l2 iv2 kp2 c2 => ⟨_, _, rfl, ?_⟩
  refine rd_take (g := ⟨C, CB, t, r, x, H, E⟩) rfl c2 (tok_of (by decide +kernel)) (by decide +kernel) fun H3 _ kp3 c3 => ?_
  refine rd_call (g := ⟨C, CB, t, r, x, H, E⟩) (syms := ["NUM"]) (st := "<-" :: "E" :: st) (d := 1) rfl c3 (by omega) fun v4 H4 l4 iv4 kp4 c4 => ?_
  refine rd_take (g := ⟨C, CB, t, r, x, H, E⟩) rfl c4 (tok_of (by decide +kernel)) (by decide +kernel) fun H5 _ kp5 c5 => ?_
  exact ⟨_, rfl, _, rfl, _, rfl, rd_call (g := ⟨C, CB, t, r, x, H, E⟩) (syms := ["E"]) (st := st) (d := 1) rfl c5 (by omega) fun v6 H6 l6 iv6 kp6 c6 => ⟨fit3 (by show 5 ≤ 10; decide), fun p hp => done (c6.up hp _) IsT.new (by omega)⟩⟩
theorem sc_mem_here : FnScope ["lexer", "name", "many", "width", "at", "data"] ["lexer"] (defScope (topS 38)) := ⟨rfl, rfl, rfl, by decide +kernel, rfl, by decide +kernel, by decide +kernel⟩
theorem ok_mem_here (A : LA P K mg C CB f1 cc cda) (T : RdTx w K mg) {n k : Nat} (h5 : 5 ≤ k) (G_number_here : FnOk P w K mg base (L2.CX P w) k T.number_here.f T.number_here.fd ["lexer"] (spP C CB [] ["NUM"] (n) 1)) (G_width_here : FnOk P w K mg base (L2.CX P w) k T.width_here.f T.width_here.fd ["lexer"] (spP C CB [] ["bits", "NUM"] (n) 1)) (G_expression_here : FnOk P w K mg base (L2.CX P w) k T.expression_here.f T.expression_here.fd ["lexer"] (spP C CB [] ["E"] (n) 1)) :
    FnOk P w K mg base (L2.CX P w) (k + 1) T.mem_here.f T.mem_here.fd ["lexer"] (spP C CB [] ["NAME", "[", "NUM", "]", "bits", "NUM", "[", "E", "]", "<-", "E", "when", "E"] (n) 1) := by
  refine T.mem_here.F.okX sc_mem_here (fun vs H Q E h => ?_) (fun cdv _ outer s H vs Q E hr h => ?_)
  · obtain ⟨t, r, x, l, st, rfl, _⟩ := h
    rfl
  obtain ⟨t, r, x, l, st, rfl, hL, hl, hrn, hn, hz, kk⟩ := h
  have c : Cu ⟨C, CB, t, r, x, H, E⟩ l (n) l.pl ("NAME" :: "[" :: "NUM" :: "]" :: "bits" :: "NUM" :: "[" :: "E" :: "]" :: "<-" :: "E" :: "when" :: "E" :: st) H := ⟨hL, hrn, hn, Nat.le_refl _, Kp.refl _ _, hz, hl⟩
  have done : ∀ {v H' l' m j}, Cu ⟨C, CB, t, r, x, H, E⟩ l' m j st H' → IsT v H' → l.pl + 1 ≤ j → Q v H' := fun c' iv hj => kk _ _ _ iv c'.kp c'.la c'.rn (Nat.le_trans hj c'.pg)
  have nd := sc_mem_here.nd
  refine ⟨_, (pss_cons (ps_set (i := 1) nd rfl (.inl rfl) (pe_meth0 (pv 0) A.T.cl A.T.mName.mt A.g_name (hr.mono (by omega)) A.T.mName.b .nil passE))
    (pss_cons (ps_expr (pe_meth (pv 0) A.T.cl A.T.mTake.mt A.g_take (hr.mono (by omega)) A.T.mTake.b .nil passE (pa_cons pe_str pa_nil)))
    (pss_cons (ps_set (i := 2) nd rfl (.inl rfl) (pe_call G_number_here (hr.mono (by omega)) rfl T.number_here.g T.number_here.F.kp T.number_here.b .nil passE (pa_cons (pv 0) pa_nil)))
    (pss_cons (ps_expr (pe_meth (pv 0) A.T.cl A.T.mTake.mt A.g_take (hr.mono (by omega)) A.T.mTake.b .nil passE (pa_cons pe_str pa_nil)))
    (pss_cons (ps_set (i := 3) nd rfl (.inl rfl) (pe_call G_width_here (hr.mono (by omega)) rfl T.width_here.g T.width_here.F.kp T.width_here.b .nil passE (pa_cons (pv 0) pa_nil)))
    (pss_cons (ps_expr (pe_meth (pv 0) A.T.cl A.T.mTake.mt A.g_take (hr.mono (by omega)) A.T.mTake.b .nil passE (pa_cons pe_str pa_nil)))
    (pss_cons (ps_set (i := 4) nd rfl (.inl rfl) (pe_call G_expression_here (hr.mono (by omega)) rfl T.expression_here.g T.expression_here.F.kp T.expression_here.b .nil passE (pa_cons (pv 0) pa_nil)))
    (pss_cons (ps_expr (pe_meth (pv 0) A.T.cl A.T.mTake.mt A.g_take (hr.mono (by omega)) A.T.mTake.b .nil passE (pa_cons pe_str pa_nil)))
    (pss_cons (ps_expr (pe_meth (pv 0) A.T.cl A.T.mTake.mt A.g_take (hr.mono (by omega)) A.T.mTake.b .nil passE (pa_cons pe_str pa_nil)))
    (pss_cons (ps_set (i := 5) nd rfl (.inl rfl) (pe_call G_expression_here (hr.mono (by omega)) rfl T.expression_here.g T.expression_here.F.kp T.expression_here.b .nil passE (pa_cons (pv 0) pa_nil)))
    (pss_cons (ps_expr (pe_meth (pv 0) A.T.cl A.T.mTake.mt A.g_take (hr.mono (by omega)) A.T.mTake.b .nil passE (pa_cons pe_str pa_nil)))
    (pss_one (ps_ret (pe_tup (pa_cons pe_str (pa_cons (pv 1) (pa_cons (pv 3) (pa_cons (pv 2) (pa_cons (pv 4) (pa_cons (pv 5) (pa_cons (pe_call G_expression_here (hr.mono (by omega)) rfl T.expression_here.g T.expression_here.F.kp T.expression_here.b .nil passE (pa_cons (pv 0) pa_nil)) pa_nil))))))))))))))))))))), ?_⟩
  refine rd_name (g := ⟨C, CB, t, r, x, H, E⟩) rfl c fun H1 _ kp1 c1 => ?_
  refine rd_take (g := ⟨C, CB, t, r, x, H, E⟩) rfl c1 (tok_of (by decide +kernel)) (by decide +kernel) fun H2 _ kp2 c2 => ?_
  refine rd_call (g := ⟨C, CB, t, r, x, H, E⟩) (syms := ["NUM"]) (st := "]" :: "bits" :: "NUM" :: "[" :: "E" :: "]" :: "<-" :: "E" :: "when" :: "E" :: st) (d := 1) rfl c2 (by omega) fun v3 H3 l3 iv3 kp3 c3 => ?_
  refine rd_take (g := ⟨C, CB, t, r, x, H, E⟩) rfl c3 (tok_of (by decide +kernel)) (by decide +kernel) fun H4 _ kp4 c4 => ?_
  refine rd_call (g := ⟨C, CB, t, r, x, H, E⟩) (syms := ["bits", "NUM"]) (st := "[" :: "E" :: "]" :: "<-" :: "E" :: "when" :: "E" :: st) (d := 1) rfl c4 (by omega) fun v5 H5 l5 iv5 kp5 c5 => ?_
  refine rd_take (g := ⟨C, CB, t, r, x, H, E⟩) rfl c5 (tok_of (by decide +kernel)) (by decide +kernel) fun H6 _ kp6 c6 => ?_
  refine rd_call (g := ⟨C, CB, t, r, x, H, E⟩) (syms := ["E"]) (st := "]" :: "<-" :: "E" :: "when" :: "E" :: st) (d := 1) rfl c6 (by omega) fun v7 H7 l7 iv7 kp7 c7 => ?_
  refine rd_take (g := ⟨C, CB, t, r, x, H, E⟩) rfl c7 (tok_of (by decide +kernel)) (by decide +kernel) fun H8 _ kp8 c8 => ?_
  refine rd_take (g := ⟨C, CB, t, r, x, H, E⟩) rfl c8 (tok_of (by decide +kernel)) (by decide +kernel) fun H9 _ kp9 c9 => ?_
  refine rd_call (g := ⟨C, CB, t, r, x, H, E⟩) (syms := ["E"]) (st := "when" :: "E" :: st) (d := 1) rfl c9 (by omega) fun v10 H10 l10 iv10 kp10 c10 => ?_
  refine rd_take (g := ⟨C, CB, t, r, x, H, E⟩) rfl c10 (tok_of (by decide +kernel)) (by decide +kernel) fun H11 _ kp11 c11 => ?_
  exact ⟨_, rfl, _, rfl, _, rfl, _, rfl, _, rfl, rd_call (g := ⟨C, CB, t, r, x, H, E⟩) (syms := ["E"]) (st := st) (d := 1) rfl c11 (by omega) fun v6 H6 l6 iv6 kp6 c6 => ⟨fit3 (by show 7 ≤ 10; decide), fun p hp => done (c6.up hp _) IsT.new (by omega)⟩⟩
end
end K04
end

section
set_option Elab.async false
set_option maxRecDepth 100000
set_option maxHeartbeats 4000000
set_option pp.maxSteps 2000
/-! K13: items, modules, designs. -/
namespace K04
open PySem L2 PyProof.Rows
section
variable {P : Program} {w : World} {K : PySem.W.Frag} {mg : Str → Option Value} {base : Heap} {C CB f1 cc cda : Addr}
theorem sc_ports_here : FnScope ["lexer", "found", "port"] ["lexer"] (defScope (topS 39)) := ⟨rfl, rfl, rfl, by decide +kernel, rfl, by decide +kernel, by decide +kernel⟩
/-- the forms that stand on top as ports are read -/
def ptS (xs : List V) : Str := if xs.isEmpty then "PORTS" else "MOREPORTS"
theorem ptS_put (xs : List V) (v : V) : ptS (xs ++ [v]) = "MOREPORTS" := by cases xs <;> rfl
theorem ports_head {K : PySem.W.Frag} {g : Gh} {l : Lx} {n : Nat} {st : List Str} {H : Hp} {p : Addr} {xs : List V} {o2 : Option V} {D : Ends} (c : Cu g l n l.pl (ptS xs :: ")" :: st) H) (hx : S l.tx ≠ (")" : Str)) (hp : H p = some (.lst xs)) (fp : g.H0 p = none)
    (k : ∀ H' l', Cu g l' n l.pl ("PORT" :: "MOREPORTS" :: ")" :: st) H' → H' p = some (.lst xs) → D.nx [some (.ref g.x), some (.ref p), o2] H') :
    tIfS (tTest (tOp (rNil K true) (tVar 1) (tLst tNil))) (tDrop (tMeth g.C "take" (spTake g.C g.CB) [] g.E (tVar 0) (tCons (tC (.str ",")) tNil))) tNext D [some (.ref g.x), some (.ref p), o2] H := by
  refine ⟨_, rfl, fit3 (Nat.zero_le _), fun e he => ⟨p, e, xs, rfl, rfl, SqL.of (same_up he _ _ _ hp), SqL.of upd_same, _, rfl, ?_⟩⟩
  have c1 := c.up he (.lst [])
  have h1 := same_up he (.lst []) _ _ hp
  generalize upd H e (.lst []) = H1 at c1 h1 ⊢
  cases xs with
  | nil => exact iteF (k H1 l (c1.rowE (hs := [")"]) (b := ["PORT", "MOREPORTS"]) (by decide +kernel) (by rw [List.mem_singleton]; exact hx)) h1)
  | cons x0 xs =>
    refine iteT ?_
    refine rd_takeO (g := g) rfl c1 (fun hx2 H2 kp2 hL2 => ?_) (fun hx2 => ?_)
    · have c2 := (c1.rowZ (A := "MOREPORTS") (b := ["PORT", "MOREPORTS"]) (by decide +kernel) hx2).tok (tok_of (by decide +kernel)) (by decide +kernel) hx2 kp2 hL2
      exact k H2 _ (c2.weak (Nat.sub_le _ _) (Nat.le_succ _)) (lst_kp h1 c1.la kp2)
    · have c2 := c1.rowE (A := "MOREPORTS") (hs := [","]) (b := []) (by decide +kernel) (by rw [List.mem_singleton]; exact hx2)
      exact c2.rn.tokNo (tok_of (by decide +kernel)) c2.ok hx
theorem ok_ports_here (A : LA P K mg C CB f1 cc cda) (T : RdTx w K mg) {n k : Nat} (h5 : 5 ≤ k) (G_expression_here : FnOk P w K mg base (L2.CX P w) k T.expression_here.f T.expression_here.fd ["lexer"] (spP C CB [] ["E"] (n) 1)) :
    FnOk P w K mg base (L2.CX P w) (k + 1) T.ports_here.f T.ports_here.fd ["lexer"] (spP C CB [] ["(", "PORTS", ")"] (n) 1) := by
  refine T.ports_here.F.okX sc_ports_here (fun vs H Q E h => ?_) (fun cdv _ outer s H vs Q E hr h => ?_)
  · obtain ⟨t, r, x, l, st, rfl, _⟩ := h
    rfl
  obtain ⟨t, r, x, l, st, rfl, hL, hl, hrn, hn, hz, kk⟩ := h
  have c : Cu ⟨C, CB, t, r, x, H, E⟩ l (n) l.pl ("(" :: "PORTS" :: ")" :: st) H := ⟨hL, hrn, hn, Nat.le_refl _, Kp.refl _ _, hz, hl⟩
  have done : ∀ {v H' l' m j}, Cu ⟨C, CB, t, r, x, H, E⟩ l' m j st H' → IsT v H' → l.pl + 1 ≤ j → Q v H' := fun c' iv hj => kk _ _ _ iv c'.kp c'.la c'.rn (Nat.le_trans hj c'.pg)
  have nd := sc_ports_here.nd
  refine ⟨_, (pss_cons (ps_expr (pe_meth (pv 0) A.T.cl A.T.mTake.mt A.g_take (hr.mono (by omega)) A.T.mTake.b .nil passE (pa_cons pe_str pa_nil)))
    (pss_cons (ps_set (i := 1) nd rfl (.inl rfl) (pe_lst pa_nil))
    (pss_cons (ps_while (passes_of rfl) (pt_not (pt_val (pe_meth (pv 0) A.T.cl A.T.mNext.mt A.g_is_next (hr.mono (by omega)) A.T.mNext.b .nil pass0 (pa_cons pe_str pa_nil)))) (pss_cons (ps_if (pt_cmpR (op_neNil hr.units0) (pv 1) (pe_lst pa_nil) (nomark _)) (pss_one (ps_expr (pe_meth (pv 0) A.T.cl A.T.mTake.mt A.g_take (hr.mono (by omega)) A.T.mTake.b .nil passE (pa_cons pe_str pa_nil)))) pss_nil)
    (pss_cons (ps_set (i := 2) nd rfl (.inl rfl) (pe_meth0 (pv 0) A.T.cl A.T.mName.mt A.g_name (hr.mono (by omega)) A.T.mName.b .nil passE))
    (pss_cons (ps_expr (pe_meth (pv 0) A.T.cl A.T.mTake.mt A.g_take (hr.mono (by omega)) A.T.mTake.b .nil passE (pa_cons pe_str pa_nil)))
    (pss_one (ps_expr (pe_bm PySem.F.plainAttrs_list PySem.F.slot_list_append PySem.F.type_list_append mt_append (pv 1) (pa_cons (pe_tup (pa_cons (pv 2) (pa_cons (pe_call G_expression_here (hr.mono (by omega)) rfl T.expression_here.g T.expression_here.F.kp T.expression_here.b .nil passE (pa_cons (pv 0) pa_nil)) pa_nil))) pa_nil))))))))
    (pss_cons (ps_expr (pe_meth0 (pv 0) A.T.cl A.T.mGo.mt A.g_go (hr.mono (by omega)) A.T.mGo.b .nil pass0))
    (pss_one (ps_ret (pe_callTy call_tuple_of (by rfl) T.m_tuple (by decide +kernel) (pa_cons (pv 1) pa_nil)))))))), ?_⟩
  refine rd_take (g := ⟨C, CB, t, r, x, H, E⟩) rfl c (tok_of (by decide +kernel)) (by decide +kernel) fun H1 _ kp1 c1 => ?_
  refine ⟨fit3 (Nat.zero_le _), fun p hp => ?_⟩
  have q1 : l.pl + 1 ≤ (nx t l).pl := c1.pg
  refine ⟨fun m σ H' => ∃ l2 xs o2, σ = [some (.ref x), some (.ref p), o2] ∧ m = t.length - l2.pl ∧ l.pl + 1 ≤ l2.pl ∧ Cu ⟨C, CB, t, r, x, H, E⟩ l2 n l2.pl (ptS xs :: ")" :: st) H' ∧ LsI H p xs l2 H',
    ⟨_, nx t l, [], _, rfl, rfl, q1, (c1.here.weak (Nat.sub_le _ _) (Nat.le_refl _)).up hp _, upd_same, c1.fresh hp, Nat.zero_le _⟩, ?_⟩
  rintro m σ H2 ⟨l2, xs, o2, rfl, rfl, hj, c2, ls⟩
  have le2 : l2.pl + l2.tx.length ≤ t.length := c2.ok.le
  refine rd_next (g := ⟨C, CB, t, r, x, H, E⟩) (z := ")") rfl c2 ⟨_, rfl, ?_⟩
  by_cases hx : S l2.tx = (")" : Str)
  · rw [decide_eq_true hx]
    refine iteF ?_
    have c3 : Cu ⟨C, CB, t, r, x, H, E⟩ l2 n l2.pl (")" :: st) H2 := by
      unfold ptS at c2
      split at c2
      · exact c2.rowA (hs := [")"]) (b := []) (by decide +kernel) (by rw [hx]; decide +kernel)
      · exact c2.rowE (hs := [","]) (b := []) (by decide +kernel) (by rw [hx]; decide +kernel)
    refine rd_go (g := ⟨C, CB, t, r, x, H, E⟩) rfl c3 fun H4 kp4 hL4 => ?_
    have c4 := c3.tok (tok_of (by decide +kernel)) (by decide +kernel) hx kp4 hL4
    exact ⟨_, rfl, p, xs, rfl, .inl ⟨SqL.of (lst_kp ls.hp c3.la kp4), fun q hq => done (c4.up hq _) IsT.new (by omega)⟩⟩
  rw [decide_eq_false hx]
  refine iteT ?_
  refine ⟨fun σ' H'' => ∃ m', m' < t.length - l2.pl ∧ ∃ l2 xs o2, σ' = [some (.ref x), some (.ref p), o2] ∧ m' = t.length - l2.pl ∧ l.pl + 1 ≤ l2.pl ∧ Cu ⟨C, CB, t, r, x, H, E⟩ l2 n l2.pl (ptS xs :: ")" :: st) H'' ∧ LsI H p xs l2 H'', fun _ _ h => h, ?_⟩
  refine ports_head (g := ⟨C, CB, t, r, x, H, E⟩) c2 hx ls.hp ls.fp fun H3 l3 c3 h3 => ?_
  have c4 := c3.row1 (b := ["NAME", "=", "E"]) (by decide +kernel)
  refine rd_name (g := ⟨C, CB, t, r, x, H, E⟩) rfl c4 fun H5 _ kp5 c5 => ?_
  have h5 := lst_kp h3 c4.la kp5
  refine rd_take (g := ⟨C, CB, t, r, x, H, E⟩) rfl c5 (tok_of (by decide +kernel)) (by decide +kernel) fun H6 _ kp6 c6 => ?_
  have h6 := lst_kp h5 c5.la kp6
  refine ⟨_, rfl, lst_ty h6, _, rfl, rd_call (g := ⟨C, CB, t, r, x, H, E⟩) (syms := ["E"]) (st := "MOREPORTS" :: ")" :: st) (d := 1) rfl c6 (Nat.sub_le _ _) fun v7 H7 l7 iv7 kp7 c7 => ⟨fit3 (by show 2 ≤ 10; decide), fun q hq => ?_⟩⟩
  have h7 := lst_kp h6 c6.la kp7
  have c8 := c7.up hq (.tup [.str (S l3.tx), v7])
  have h8 := same_up hq (.tup [.str (S l3.tx), v7]) _ _ h7
  have p8 : l2.pl + 1 + 1 + 1 ≤ l7.pl := c7.pg
  have le8 : l7.pl + l7.tx.length ≤ t.length := c7.ok.le
  refine ⟨p, xs, .ref q, rfl, rfl, h8, ls.fit c2.ok hl, t.length - l7.pl, by omega, l7, _, _, rfl, rfl, by omega, ?_, lsi_put ls h8 (by omega)⟩
  rw [ptS_put]
  exact (c8.here.weak (Nat.sub_le _ _) (Nat.le_refl _)).set h8 ls.fp _
theorem sc_named_here : FnScope ["lexer", "place", "module", "numbers"] ["lexer"] (defScope (topS 40)) := ⟨rfl, rfl, rfl, by decide +kernel, rfl, by decide +kernel, by decide +kernel⟩
/-- what begins with a name: behind it stands a semicolon -/
def spNamed (C CB : Addr) (n : Nat) : Sp := fun vs H Q E => ∃ t r x l st, vs = [.ref x] ∧ LAt C t H x l ∧ t.length ≤ 1000000 ∧ Rn t r ("NAME" :: "NAMED" :: st) l ∧ nest t l < n ∧ (∀ p, r = some p → Rz CB x H E p) ∧
  ∀ v H' l', IsT v H' → Kp x H H' → LAt C t H' x l' → Rn t r (";" :: st) l' → l.pl + 1 ≤ l'.pl → Q v H'
theorem tag_one (xs : List V) (t : Str) : atI (V.str t :: xs) 0 = some (.str t) := atI_nat (j := 0) rfl
theorem ok_named_here (A : LA P K mg C CB f1 cc cda) (T : RdTx w K mg) {n k : Nat} (h5 : 5 ≤ k) (G_place_here : FnOk P w K mg base (L2.CX P w) k T.place_here.f T.place_here.fd ["lexer"] (spPlace C CB n))
    (G_sizes_here : FnOk P w K mg base (L2.CX P w) k T.sizes_here.f T.sizes_here.fd ["lexer"] (spP C CB [] ["SIZES"] n 0)) (G_ports_here : FnOk P w K mg base (L2.CX P w) k T.ports_here.f T.ports_here.fd ["lexer"] (spP C CB [] ["(", "PORTS", ")"] n 1))
    (G_expression_here : FnOk P w K mg base (L2.CX P w) k T.expression_here.f T.expression_here.fd ["lexer"] (spP C CB [] ["E"] n 1)) :
    FnOk P w K mg base (L2.CX P w) (k + 1) T.named_here.f T.named_here.fd ["lexer"] (spNamed C CB n) := by
  refine T.named_here.F.okX sc_named_here (fun vs H Q E h => ?_) (fun cdv _ outer s H vs Q E hr h => ?_)
  · obtain ⟨t, r, x, l, st, rfl, _⟩ := h
    rfl
  obtain ⟨t, r, x, l, st, rfl, hL, hl, hrn, hn, hz, kk⟩ := h
  have c : Cu ⟨C, CB, t, r, x, H, E⟩ l n l.pl ("NAME" :: "NAMED" :: st) H := ⟨hL, hrn, hn, Nat.le_refl _, Kp.refl _ _, hz, hl⟩
  have done : ∀ {v H' l' m j}, Cu ⟨C, CB, t, r, x, H, E⟩ l' m j (";" :: st) H' → IsT v H' → l.pl + 1 ≤ j → Q v H' := fun c' iv hj => kk _ _ _ iv c'.kp c'.la c'.rn (Nat.le_trans hj c'.pg)
  have nd := sc_named_here.nd
  refine ⟨_, (pss_cons (ps_set (i := 1) nd rfl (.inl rfl) (pe_call G_place_here (hr.mono (by omega)) rfl T.place_here.g T.place_here.F.kp T.place_here.b .nil passE (pa_cons (pv 0) pa_nil)))
    (pss_cons (ps_if (PW.pt (pw_and (pt_cmpR op_eq (pe_ix ix_tup (pv 1) pe_int (fun _ _ => rfl)) pe_str (nomark _)) (pw_and1 (pt_val (pe_meth (pv 0) A.T.cl A.T.mHas.mt A.g_has (hr.mono (by omega)) A.T.mHas.b .nil pass0 (pa_cons pe_str pa_nil)))))) (pss_cons (ps_par (i := 2) (j := 3) rfl nd rfl rfl (by decide) rfl rfl (pa_cons (pe_meth0 (pv 0) A.T.cl A.T.mName.mt A.g_name (hr.mono (by omega)) A.T.mName.b .nil passE) (pa_cons (pe_call G_sizes_here (hr.mono (by omega)) rfl T.sizes_here.g T.sizes_here.F.kp T.sizes_here.b .nil passE (pa_cons (pv 0) pa_nil)) pa_nil)) (by rfl))
    (pss_one (ps_ret (pe_tup (pa_cons pe_str (pa_cons (pe_ix ix_tup (pv 1) pe_int (fun _ _ => rfl)) (pa_cons (pv 2) (pa_cons (pv 3) (pa_cons (pe_call G_ports_here (hr.mono (by omega)) rfl T.ports_here.g T.ports_here.F.kp T.ports_here.b .nil passE (pa_cons (pv 0) pa_nil)) pa_nil))))))))) pss_nil)
    (pss_cons (ps_expr (pe_meth (pv 0) A.T.cl A.T.mTake.mt A.g_take (hr.mono (by omega)) A.T.mTake.b .nil passE (pa_cons pe_str pa_nil)))
    (pss_one (ps_ret (pe_tup (pa_cons pe_str (pa_cons (pv 1) (pa_cons (pe_call G_expression_here (hr.mono (by omega)) rfl T.expression_here.g T.expression_here.F.kp T.expression_here.b .nil passE (pa_cons (pv 0) pa_nil)) pa_nil))))))))), ?_⟩
  refine ⟨_, rfl, t, r, x, l, st, "NAMED", ["=", "E", ";"], rfl, c.la, hl, c.rn, by decide +kernel, hn, hz, fun H2 l2 a tag nm xs ha kp2 la2 hrn2 hp2 => ?_⟩
  refine ⟨_, rfl, a, _, 0, .str tag, rfl, rfl, SqT.of ha, tag_one _ _, rfl, _, rfl, ?_⟩
  have ne2 : nest t l2 < n := Nat.lt_of_le_of_lt (nest_le (by omega)) hn
  rcases hrn2 with ⟨rfl, rn2, hx2⟩ | ⟨rfl, rn2⟩
  · have c2 : Cu ⟨C, CB, t, r, x, H, E⟩ l2 n l2.pl ("NAMED" :: st) H2 := ⟨la2, rn2, ne2, Nat.le_refl _, kp2, hz, hl⟩
    refine iteT ?_
    refine rd_hasR (g := ⟨C, CB, t, r, x, H, E⟩) (b := ["NAME", "SIZES", "(", "PORTS", ")", ";"]) rfl c2 (by decide +kernel) (tok_of (by decide +kernel)) (by decide +kernel) (fun hx H3 kp3 c3 => ⟨_, rfl, iteT ?_⟩) (fun hx => ⟨_, rfl, iteF ?_⟩)
    · refine rd_name (g := ⟨C, CB, t, r, x, H, E⟩) rfl c3 fun H4 _ kp4 c4 => ?_
      refine rd_call (g := ⟨C, CB, t, r, x, H, E⟩) (syms := ["SIZES"]) (st := "(" :: "PORTS" :: ")" :: ";" :: st) (d := 0) rfl c4 (Nat.sub_le _ _) fun v5 H5 l5 iv5 kp5 c5 => ⟨_, _, rfl, ?_⟩
      have t5 := ((Tk.kp c2.la kp3).trans (Tk.kp c3.la kp4)).trans (Tk.kp c4.la kp5)
      exact ⟨_, rfl, a, _, 1, _, rfl, rfl, SqT.of (t5 _ _ ha), atI_nat (j := 1) rfl, _, rfl, _, rfl, rd_call (g := ⟨C, CB, t, r, x, H, E⟩) (syms := ["(", "PORTS", ")"]) (st := ";" :: st) (d := 1) rfl c5 (Nat.sub_le _ _) fun v6 H6 l6 iv6 kp6 c6 =>
        ⟨fit3 (by show 5 ≤ 10; decide), fun p hp => done (c6.up hp _) IsT.new (by omega)⟩⟩
    have c3 := c2.rowE (hs := ["[", ":"]) (b := ["=", "E", ";"]) (by decide +kernel) (fun m => by
      rcases List.mem_cons.mp m with e | m
      · exact hx2 e
      · exact hx (List.mem_singleton.mp m))
    refine rd_take (g := ⟨C, CB, t, r, x, H, E⟩) rfl c3 (tok_of (by decide +kernel)) (by decide +kernel) fun H4 _ kp4 c4 => ?_
    exact ⟨_, rfl, rd_call (g := ⟨C, CB, t, r, x, H, E⟩) (syms := ["E"]) (st := ";" :: st) (d := 1) rfl c4 (Nat.sub_le _ _) fun v5 H5 l5 iv5 kp5 c5 => ⟨fit3 (by show 3 ≤ 10; decide), fun p hp => done (c5.up hp _) IsT.new (by omega)⟩⟩
  · have c3 : Cu ⟨C, CB, t, r, x, H, E⟩ l2 n l2.pl ("=" :: "E" :: ";" :: st) H2 := ⟨la2, rn2, ne2, Nat.le_refl _, kp2, hz, hl⟩
    refine iteF ?_
    refine rd_take (g := ⟨C, CB, t, r, x, H, E⟩) rfl c3 (tok_of (by decide +kernel)) (by decide +kernel) fun H4 _ kp4 c4 => ?_
    exact ⟨_, rfl, rd_call (g := ⟨C, CB, t, r, x, H, E⟩) (syms := ["E"]) (st := ";" :: st) (d := 1) rfl c4 (Nat.sub_le _ _) fun v5 H5 l5 iv5 kp5 c5 => ⟨fit3 (by show 3 ≤ 10; decide), fun p hp => done (c5.up hp _) IsT.new (by omega)⟩⟩
/-- a list of items in braces -/
def spItems (C CB : Addr) (n : Nat) : Sp := fun vs H Q E => spP C CB [.bl false] ["{", "ITEMS", "}"] n 1 vs H Q E ∨ spP C CB [.bl true] ["{", "ITEM", "ITEMS", "}"] n 1 vs H Q E
theorem rd_items {g : Gh} {l : Lx} {m j n : Nat} {st : List Str} {H : Hp} {Q : VK} {σ : L2.St} (hσ : σ[0]? = some (some (.ref g.x))) (c : Cu g l m j ("{" :: "ITEMS" :: "}" :: st) H) (hm : m ≤ n) (k : ∀ v H' l', IsT v H' → Kp g.x H H' → Cu g l' m (j + 1) st H' → Q v H') :
    tCall (spItems g.C g.CB n) [.bl false] g.E (tCons (tVar 0) tNil) σ H Q := by
  obtain ⟨_, hq, h⟩ := rd_callX (g := g) (ex := [.bl false]) (syms := ["{", "ITEMS", "}"]) (d := 1) (ta := tCons (tC (.bl false)) tNil) hσ c hm (fun _ q => q) k
  exact ⟨_, hq, .inl h⟩
theorem rd_itemsF {g : Gh} {l : Lx} {m j n : Nat} {st : List Str} {H : Hp} {Q : VK} {σ : L2.St} (hσ : σ[0]? = some (some (.ref g.x))) (c : Cu g l m j ("{" :: "ITEM" :: "ITEMS" :: "}" :: st) H) (hm : m ≤ n) (k : ∀ v H' l', IsT v H' → Kp g.x H H' → Cu g l' m (j + 1) st H' → Q v H') :
    tCall (spItems g.C g.CB n) [] g.E (tCons (tVar 0) (tCons (tC (.bl true)) tNil)) σ H Q := by
  obtain ⟨_, hq, h⟩ := rd_callX (g := g) (ex := [.bl true]) (syms := ["{", "ITEM", "ITEMS", "}"]) (d := 1) (ta := tCons (tC (.bl true)) tNil) hσ c hm (fun _ q => q) k
  exact ⟨_, hq, .inr h⟩
theorem sc_each_here : FnScope ["lexer", "name", "low", "high"] ["lexer"] (defScope (topS 41)) := ⟨rfl, rfl, rfl, by decide +kernel, rfl, by decide +kernel, by decide +kernel⟩
theorem ok_each_here (A : LA P K mg C CB f1 cc cda) (T : RdTx w K mg) {n k : Nat} (h5 : 5 ≤ k) (G_number_here : FnOk P w K mg base (L2.CX P w) k T.number_here.f T.number_here.fd ["lexer"] (spP C CB [] ["NUM"] (n) 1)) (G_items_here : FnOk P w K mg base (L2.CX P w) k T.items_here.f T.items_here.fd ["lexer", "is_full"] (spItems C CB n)) :
    FnOk P w K mg base (L2.CX P w) (k + 1) T.each_here.f T.each_here.fd ["lexer"] (spP C CB [] ["NAME", "=", "NUM", "to", "NUM", "{", "ITEMS", "}"] (n) 1) := by
  refine T.each_here.F.okX sc_each_here (fun vs H Q E h => ?_) (fun cdv _ outer s H vs Q E hr h => ?_)
  · obtain ⟨t, r, x, l, st, rfl, _⟩ := h
    rfl
  obtain ⟨t, r, x, l, st, rfl, hL, hl, hrn, hn, hz, kk⟩ := h
  have c : Cu ⟨C, CB, t, r, x, H, E⟩ l (n) l.pl ("NAME" :: "=" :: "NUM" :: "to" :: "NUM" :: "{" :: "ITEMS" :: "}" :: st) H := ⟨hL, hrn, hn, Nat.le_refl _, Kp.refl _ _, hz, hl⟩
  have done : ∀ {v H' l' m j}, Cu ⟨C, CB, t, r, x, H, E⟩ l' m j st H' → IsT v H' → l.pl + 1 ≤ j → Q v H' := fun c' iv hj => kk _ _ _ iv c'.kp c'.la c'.rn (Nat.le_trans hj c'.pg)
  have nd := sc_each_here.nd
  refine ⟨_, (pss_cons (ps_set (i := 1) nd rfl (.inl rfl) (pe_meth0 (pv 0) A.T.cl A.T.mName.mt A.g_name (hr.mono (by omega)) A.T.mName.b .nil passE))
    (pss_cons (ps_expr (pe_meth (pv 0) A.T.cl A.T.mTake.mt A.g_take (hr.mono (by omega)) A.T.mTake.b .nil passE (pa_cons pe_str pa_nil)))
    (pss_cons (ps_set (i := 2) nd rfl (.inl rfl) (pe_call G_number_here (hr.mono (by omega)) rfl T.number_here.g T.number_here.F.kp T.number_here.b .nil passE (pa_cons (pv 0) pa_nil)))
    (pss_cons (ps_expr (pe_meth (pv 0) A.T.cl A.T.mTake.mt A.g_take (hr.mono (by omega)) A.T.mTake.b .nil passE (pa_cons pe_str pa_nil)))
    (pss_cons (ps_set (i := 3) nd rfl (.inl rfl) (pe_call G_number_here (hr.mono (by omega)) rfl T.number_here.g T.number_here.F.kp T.number_here.b .nil passE (pa_cons (pv 0) pa_nil)))
    (pss_one (ps_ret (pe_tup (pa_cons pe_str (pa_cons (pv 1) (pa_cons (pv 2) (pa_cons (pv 3) (pa_cons (pe_call G_items_here (hr.mono (by omega)) rfl T.items_here.g T.items_here.F.kp T.items1 (.cons (show L2.RelV (.bl false) (.bool false) from rfl) .nil) passE (pa_cons (pv 0) pa_nil)) pa_nil))))))))))))), ?_⟩
  refine rd_name (g := ⟨C, CB, t, r, x, H, E⟩) rfl c fun H1 _ kp1 c1 => ?_
  refine rd_take (g := ⟨C, CB, t, r, x, H, E⟩) rfl c1 (tok_of (by decide +kernel)) (by decide +kernel) fun H2 _ kp2 c2 => ?_
  refine rd_call (g := ⟨C, CB, t, r, x, H, E⟩) (syms := ["NUM"]) (st := "to" :: "NUM" :: "{" :: "ITEMS" :: "}" :: st) (d := 1) rfl c2 (by omega) fun v3 H3 l3 iv3 kp3 c3 => ?_
  refine rd_take (g := ⟨C, CB, t, r, x, H, E⟩) rfl c3 (tok_of (by decide +kernel)) (by decide +kernel) fun H4 _ kp4 c4 => ?_
  refine rd_call (g := ⟨C, CB, t, r, x, H, E⟩) (syms := ["NUM"]) (st := "{" :: "ITEMS" :: "}" :: st) (d := 1) rfl c4 (by omega) fun v5 H5 l5 iv5 kp5 c5 => ?_
  exact ⟨_, rfl, _, rfl, _, rfl, rd_items (g := ⟨C, CB, t, r, x, H, E⟩) rfl c5 (by omega) fun v6 H6 l6 iv6 kp6 c6 => ⟨fit3 (by show 5 ≤ 10; decide), fun p hp => done (c6.up hp _) IsT.new (by omega)⟩⟩
theorem sc_when_here : FnScope ["lexer", "number", "items", "others"] ["lexer"] (defScope (topS 42)) := ⟨rfl, rfl, rfl, by decide +kernel, rfl, by decide +kernel, by decide +kernel⟩
theorem ok_when_here (A : LA P K mg C CB f1 cc cda) (T : RdTx w K mg) {n k : Nat} (h5 : 5 ≤ k) (G_number_here : FnOk P w K mg base (L2.CX P w) k T.number_here.f T.number_here.fd ["lexer"] (spP C CB [] ["NUM"] (n) 1)) (G_items_here : FnOk P w K mg base (L2.CX P w) k T.items_here.f T.items_here.fd ["lexer", "is_full"] (spItems C CB n)) :
    FnOk P w K mg base (L2.CX P w) (k + 1) T.when_here.f T.when_here.fd ["lexer"] (spP C CB [] ["NUM", "{", "ITEMS", "}", "ELSE"] (n) 1) := by
  refine T.when_here.F.okX sc_when_here (fun vs H Q E h => ?_) (fun cdv _ outer s H vs Q E hr h => ?_)
  · obtain ⟨t, r, x, l, st, rfl, _⟩ := h
    rfl
  obtain ⟨t, r, x, l, st, rfl, hL, hl, hrn, hn, hz, kk⟩ := h
  have c : Cu ⟨C, CB, t, r, x, H, E⟩ l (n) l.pl ("NUM" :: "{" :: "ITEMS" :: "}" :: "ELSE" :: st) H := ⟨hL, hrn, hn, Nat.le_refl _, Kp.refl _ _, hz, hl⟩
  have done : ∀ {v H' l' m j}, Cu ⟨C, CB, t, r, x, H, E⟩ l' m j st H' → IsT v H' → l.pl + 1 ≤ j → Q v H' := fun c' iv hj => kk _ _ _ iv c'.kp c'.la c'.rn (Nat.le_trans hj c'.pg)
  have nd := sc_when_here.nd
  refine ⟨_, (pss_cons (ps_par3 (i := 1) (j := 2) (l := 3) rfl nd rfl rfl rfl (by decide) (by decide) (by decide) rfl rfl rfl (pa_cons (pe_call G_number_here (hr.mono (by omega)) rfl T.number_here.g T.number_here.F.kp T.number_here.b .nil passE (pa_cons (pv 0) pa_nil)) (pa_cons (pe_call G_items_here (hr.mono (by omega)) rfl T.items_here.g T.items_here.F.kp T.items1 (.cons (show L2.RelV (.bl false) (.bool false) from rfl) .nil) passE (pa_cons (pv 0) pa_nil)) (pa_cons (pe_tup pa_nil) pa_nil))) (by rfl))
    (pss_cons (ps_if (pt_val (pe_meth (pv 0) A.T.cl A.T.mHas.mt A.g_has (hr.mono (by omega)) A.T.mHas.b .nil pass0 (pa_cons pe_str pa_nil))) (pss_one (ps_set (i := 3) nd rfl (.inl rfl) (pe_call G_items_here (hr.mono (by omega)) rfl T.items_here.g T.items_here.F.kp T.items_here.b .nil passE (pa_cons (pv 0) (pa_cons pe_bl pa_nil))))) pss_nil)
    (pss_one (ps_ret (pe_tup (pa_cons pe_str (pa_cons (pv 1) (pa_cons (pv 2) (pa_cons (pv 3) pa_nil))))))))), ?_⟩
  refine rd_call (g := ⟨C, CB, t, r, x, H, E⟩) (syms := ["NUM"]) (st := "{" :: "ITEMS" :: "}" :: "ELSE" :: st) (d := 1) rfl c (Nat.le_refl _) fun v1 H1 l1 iv1 kp1 c1 => ?_
  refine rd_items (g := ⟨C, CB, t, r, x, H, E⟩) rfl c1 (Nat.le_refl _) fun v2 H2 l2 iv2 kp2 c2 => ⟨fit3 (Nat.zero_le _), fun p hp => ⟨_, _, _, rfl, ?_⟩⟩
  have c3 := c2.up hp (.tup [])
  refine rd_hasR (g := ⟨C, CB, t, r, x, H, E⟩) (b := ["{", "ITEM", "ITEMS", "}"]) rfl c3 (by decide +kernel) (tok_of (by decide +kernel)) (by decide +kernel) (fun hx H4 kp4 c4 => ⟨_, rfl, iteT ?_⟩) (fun hx => ⟨_, rfl, iteF ?_⟩)
  · refine rd_itemsF (g := ⟨C, CB, t, r, x, H, E⟩) rfl c4 (Nat.sub_le _ _) fun v5 H5 l5 iv5 kp5 c5 => ?_
    exact ⟨_, rfl, _, rfl, _, rfl, fit3 (by show 4 ≤ 10; decide), fun q hq => done (c5.up hq _) IsT.new (by omega)⟩
  · have c4 := c3.rowE (hs := ["else"]) (b := []) (by decide +kernel) (by rw [List.mem_singleton]; exact hx)
    exact ⟨_, rfl, _, rfl, _, rfl, fit3 (by show 4 ≤ 10; decide), fun q hq => done (c4.up hq _) IsT.new (by omega)⟩
end
end K04
end

section
set_option Elab.async false
set_option maxRecDepth 100000
set_option maxHeartbeats 4000000
set_option pp.maxSteps 2000
/-! K14: items, modules, designs. -/
namespace K04
open PySem L2 PyProof.Rows
section
variable {P : Program} {w : World} {K : PySem.W.Frag} {mg : Str → Option Value} {base : Heap} {C CB f1 cc cda : Addr}
theorem sc_item_here : FnScope ["lexer", "word", "name"] ["lexer"] (defScope (topS 43)) := ⟨rfl, rfl, rfl, by decide +kernel, rfl, by decide +kernel, by decide +kernel⟩
theorem item_in {x : V} {z : Str} {o2 : Option V} {H : Hp} {Q : Bool → Hp → Prop} (k : ∀ H', Same H H' → Q (decide (z ∈ (["in", "out", "wire"] : List Str))) H') :
    tTest (tOp (rIn K false) (tVar 1) (tTup (tCons (tC (.str "in")) (tCons (tC (.str "out")) (tCons (tC (.str "wire")) tNil))))) [some x, some (.str z), o2] H Q := by
  refine ⟨_, rfl, fit3 (by show 3 ≤ 10; decide), fun u hu => ⟨u, _, rfl, .inr (SqT.of upd_same), rfl, rfl, _, rfl, ?_⟩⟩
  have e : inV (.str z) [.str "in", .str "out", .str "wire"] = decide (z ∈ (["in", "out", "wire"] : List Str)) := inv_one z ["in", "out", "wire"]
  show Q (inV (.str z) [.str "in", .str "out", .str "wire"]) _
  rw [e]
  exact k _ (same_up hu _)
theorem eqS {a b : Str} : decide (V.str a = V.str b) = decide (a = b) := decide_eq_decide.mpr ⟨fun h => V.str.inj h, fun h => congrArg V.str h⟩
theorem sts_ne : (STS.all fun z => z != S []) = true := by decide +kernel
theorem ok_item_here (A : LA P K mg C CB f1 cc cda) (T : RdTx w K mg) {n k : Nat} (h5 : 5 ≤ k) (G_width_here : FnOk P w K mg base (L2.CX P w) k T.width_here.f T.width_here.fd ["lexer"] (spP C CB [] ["bits", "NUM"] (n) 1)) (G_reg_here : FnOk P w K mg base (L2.CX P w) k T.reg_here.f T.reg_here.fd ["lexer"] (spP C CB [] ["NAME", "bits", "NUM", "=", "NUM", "<-", "E"] (n) 1)) (G_mem_here : FnOk P w K mg base (L2.CX P w) k T.mem_here.f T.mem_here.fd ["lexer"] (spP C CB [] ["NAME", "[", "NUM", "]", "bits", "NUM", "[", "E", "]", "<-", "E", "when", "E"] (n) 1)) (G_each_here : FnOk P w K mg base (L2.CX P w) k T.each_here.f T.each_here.fd ["lexer"] (spP C CB [] ["NAME", "=", "NUM", "to", "NUM", "{", "ITEMS", "}"] (n) 1)) (G_when_here : FnOk P w K mg base (L2.CX P w) k T.when_here.f T.when_here.fd ["lexer"] (spP C CB [] ["NUM", "{", "ITEMS", "}", "ELSE"] (n) 1)) (G_named_here : FnOk P w K mg base (L2.CX P w) k T.named_here.f T.named_here.fd ["lexer"] (spNamed C CB n)) (G_end_here : FnOk P w K mg base (L2.CX P w) k T.end_here.f T.end_here.fd ["lexer", "item"] (spEnd C CB n)) :
    FnOk P w K mg base (L2.CX P w) (k + 1) T.item_here.f T.item_here.fd ["lexer"] (spP C CB [] ["ITEM"] (n) 1) := by
  refine T.item_here.F.okX sc_item_here (fun vs H Q E h => ?_) (fun cdv _ outer s H vs Q E hr h => ?_)
  · obtain ⟨t, r, x, l, st, rfl, _⟩ := h
    rfl
  obtain ⟨t, r, x, l, st, rfl, hL, hl, hrn, hn, hz, kk⟩ := h
  have c : Cu ⟨C, CB, t, r, x, H, E⟩ l (n) l.pl ("ITEM" :: st) H := ⟨hL, hrn, hn, Nat.le_refl _, Kp.refl _ _, hz, hl⟩
  have done : ∀ {v H' l' m j}, Cu ⟨C, CB, t, r, x, H, E⟩ l' m j st H' → IsT v H' → l.pl + 1 ≤ j → Q v H' := fun c' iv hj => kk _ _ _ iv c'.kp c'.la c'.rn (Nat.le_trans hj c'.pg)
  have nd := sc_item_here.nd
  refine ⟨_, (pss_cons (ps_set (i := 1) nd rfl (.inl rfl) (pe_ifExp (pt_val (pe_meth (pv 0) A.T.cl A.T.mOne.mt A.g_is_one_of (hr.mono (by omega)) A.T.mOne.b .nil pass0 (pa_cons (pe_glob (v := .ref T.aSTARTS) rfl T.gSTARTS rfl) pa_nil))) (pe_meth0 (pv 0) A.T.cl A.T.mGo.mt A.g_go (hr.mono (by omega)) A.T.mGo.b .nil pass0) pe_str))
    (pss_cons (ps_if (pt_cmpR op_in_seq (pv 1) (pe_tup (pa_cons pe_str (pa_cons pe_str (pa_cons pe_str pa_nil)))) rfl) (pss_cons (ps_set (i := 2) nd rfl (.inl rfl) (pe_meth0 (pv 0) A.T.cl A.T.mName.mt A.g_name (hr.mono (by omega)) A.T.mName.b .nil passE))
    (pss_one (ps_ret (pe_call G_end_here (hr.mono (by omega)) rfl T.end_here.g T.end_here.F.kp T.end_here.b .nil passE (pa_cons (pv 0) (pa_cons (pe_tup (pa_cons (pv 1) (pa_cons (pv 2) (pa_cons (pe_call G_width_here (hr.mono (by omega)) rfl T.width_here.g T.width_here.F.kp T.width_here.b .nil passE (pa_cons (pv 0) pa_nil)) pa_nil)))) pa_nil)))))) pss_nil)
    (pss_cons (ps_if (pt_cmpR op_eq (pv 1) pe_str (nomark _)) (pss_one (ps_ret (pe_call G_end_here (hr.mono (by omega)) rfl T.end_here.g T.end_here.F.kp T.end_here.b .nil passE (pa_cons (pv 0) (pa_cons (pe_call G_reg_here (hr.mono (by omega)) rfl T.reg_here.g T.reg_here.F.kp T.reg_here.b .nil passE (pa_cons (pv 0) pa_nil)) pa_nil))))) pss_nil)
    (pss_cons (ps_if (pt_cmpR op_eq (pv 1) pe_str (nomark _)) (pss_one (ps_ret (pe_call G_end_here (hr.mono (by omega)) rfl T.end_here.g T.end_here.F.kp T.end_here.b .nil passE (pa_cons (pv 0) (pa_cons (pe_call G_mem_here (hr.mono (by omega)) rfl T.mem_here.g T.mem_here.F.kp T.mem_here.b .nil passE (pa_cons (pv 0) pa_nil)) pa_nil))))) pss_nil)
    (pss_cons (ps_if (pt_cmpR op_eq (pv 1) pe_str (nomark _)) (pss_one (ps_ret (pe_call G_each_here (hr.mono (by omega)) rfl T.each_here.g T.each_here.F.kp T.each_here.b .nil passE (pa_cons (pv 0) pa_nil)))) pss_nil)
    (pss_one (ps_ret (pe_ifExp (pt_cmpR op_eq (pv 1) pe_str (nomark _)) (pe_call G_when_here (hr.mono (by omega)) rfl T.when_here.g T.when_here.F.kp T.when_here.b .nil passE (pa_cons (pv 0) pa_nil)) (pe_call G_end_here (hr.mono (by omega)) rfl T.end_here.g T.end_here.F.kp T.end_here.b .nil passE (pa_cons (pv 0) (pa_cons (pe_call G_named_here (hr.mono (by omega)) rfl T.named_here.g T.named_here.F.kp T.named_here.b .nil passE (pa_cons (pv 0) pa_nil)) pa_nil))))))))))), ?_⟩
  obtain ⟨dx0, q0, hx0, _⟩ := c.ins
  refine ⟨_, rfl, x, dx0, _, rfl, hx0, lfs_no t q0 (by decide +kernel) (by decide +kernel), t, x, l, _, STS, rfl, c.la, T.kSTARTS _, fun H1 sm1 => ⟨_, rfl, ?_⟩⟩
  have c1 := c.same sm1
  rw [oneOf_sg c1.ok (by decide +kernel)]
  by_cases hin : S l.tx ∈ STS
  · rw [decide_eq_true hin]
    refine iteT ?_
    have hne := sg_ne hin sts_ne
    refine rd_go (g := ⟨C, CB, t, r, x, H, E⟩) rfl c1 fun H2 kp2 hL2 => ?_
    refine item_in fun H3 sm3 => ?_
    by_cases hi : S l.tx ∈ (["in", "out", "wire"] : List Str)
    · rw [decide_eq_true hi]
      refine iteT ?_
      have c2 := c1.rowA (b := ["ANY", "NAME", "bits", "NUM", ";"]) (by decide +kernel) hi
      have c3 := (c2.eat kp2 hL2 (c2.rn.any hne) hne).same sm3
      refine rd_name (g := ⟨C, CB, t, r, x, H, E⟩) rfl c3 fun H4 _ kp4 c4 => ?_
      exact ⟨_, rfl, _, rfl, _, rfl, rd_call (g := ⟨C, CB, t, r, x, H, E⟩) (syms := ["bits", "NUM"]) (st := ";" :: st) (d := 1) rfl c4 (Nat.sub_le _ _) fun v5 H5 l5 iv5 kp5 c5 => ⟨fit3 (by show 3 ≤ 10; decide), fun q hq =>
        rd_end (g := ⟨C, CB, t, r, x, H, E⟩) IsT.new (c5.up hq _) (Nat.sub_le _ _) fun v6 H6 l6 iv6 kp6 c6 => done c6 iv6 (by omega)⟩⟩
    rw [decide_eq_false hi]
    refine iteF ?_
    have key : S l.tx = ("reg" : Str) ∨ S l.tx = ("mem" : Str) ∨ S l.tx = ("for" : Str) ∨ S l.tx = ("when" : Str) := by
      have m : S l.tx ∈ (["in", "out", "wire"] : List Str) ++ (["reg", "mem", "for", "when"] : List Str) := hin
      rcases List.mem_append.mp m with m | m
      · exact absurd m hi
      · simpa using m
    refine ⟨_, rfl, rfl, _, rfl, ?_⟩
    rw [eqS]
    rcases key with e | e | e | e
    · rw [decide_eq_true e]
      refine iteT ?_
      have c3 := ((c1.rowZ (b := ["NAME", "bits", "NUM", "=", "NUM", "<-", "E", ";"]) (by decide +kernel) e).tok (tok_of (by decide +kernel)) (by decide +kernel) e kp2 hL2).same sm3
      exact ⟨_, rfl, rd_call (g := ⟨C, CB, t, r, x, H, E⟩) (syms := ["NAME", "bits", "NUM", "=", "NUM", "<-", "E"]) (st := ";" :: st) (d := 1) rfl c3 (Nat.sub_le _ _) fun v5 H5 l5 iv5 kp5 c5 =>
        rd_end (g := ⟨C, CB, t, r, x, H, E⟩) iv5 c5 (Nat.sub_le _ _) fun v6 H6 l6 iv6 kp6 c6 => done c6 iv6 (by omega)⟩
    · rw [show decide (S l.tx = ("reg" : Str)) = false by rw [e]; decide +kernel]
      refine iteF ⟨_, rfl, rfl, _, rfl, ?_⟩
      rw [eqS, decide_eq_true e]
      refine iteT ?_
      have c3 := ((c1.rowZ (b := ["NAME", "[", "NUM", "]", "bits", "NUM", "[", "E", "]", "<-", "E", "when", "E", ";"]) (by decide +kernel) e).tok (tok_of (by decide +kernel)) (by decide +kernel) e kp2 hL2).same sm3
      exact ⟨_, rfl, rd_call (g := ⟨C, CB, t, r, x, H, E⟩) (syms := ["NAME", "[", "NUM", "]", "bits", "NUM", "[", "E", "]", "<-", "E", "when", "E"]) (st := ";" :: st) (d := 1) rfl c3 (Nat.sub_le _ _) fun v5 H5 l5 iv5 kp5 c5 =>
        rd_end (g := ⟨C, CB, t, r, x, H, E⟩) iv5 c5 (Nat.sub_le _ _) fun v6 H6 l6 iv6 kp6 c6 => done c6 iv6 (by omega)⟩
    · rw [show decide (S l.tx = ("reg" : Str)) = false by rw [e]; decide +kernel]
      refine iteF ⟨_, rfl, rfl, _, rfl, ?_⟩
      rw [eqS, show decide (S l.tx = ("mem" : Str)) = false by rw [e]; decide +kernel]
      refine iteF ⟨_, rfl, rfl, _, rfl, ?_⟩
      rw [eqS, decide_eq_true e]
      refine iteT ?_
      have c3 := ((c1.rowZ (b := ["NAME", "=", "NUM", "to", "NUM", "{", "ITEMS", "}"]) (by decide +kernel) e).tok (tok_of (by decide +kernel)) (by decide +kernel) e kp2 hL2).same sm3
      exact rd_call (g := ⟨C, CB, t, r, x, H, E⟩) (syms := ["NAME", "=", "NUM", "to", "NUM", "{", "ITEMS", "}"]) (st := st) (d := 1) rfl c3 (Nat.sub_le _ _) fun v5 H5 l5 iv5 kp5 c5 => done c5 iv5 (by omega)
    · rw [show decide (S l.tx = ("reg" : Str)) = false by rw [e]; decide +kernel]
      refine iteF ⟨_, rfl, rfl, _, rfl, ?_⟩
      rw [eqS, show decide (S l.tx = ("mem" : Str)) = false by rw [e]; decide +kernel]
      refine iteF ⟨_, rfl, rfl, _, rfl, ?_⟩
      rw [eqS, show decide (S l.tx = ("for" : Str)) = false by rw [e]; decide +kernel]
      refine iteF ⟨_, rfl, rfl, _, rfl, ?_⟩
      rw [eqS, decide_eq_true e]
      refine iteT ?_
      have c3 := ((c1.rowZ (b := ["NUM", "{", "ITEMS", "}", "ELSE"]) (by decide +kernel) e).tok (tok_of (by decide +kernel)) (by decide +kernel) e kp2 hL2).same sm3
      exact rd_call (g := ⟨C, CB, t, r, x, H, E⟩) (syms := ["NUM", "{", "ITEMS", "}", "ELSE"]) (st := st) (d := 1) rfl c3 (Nat.sub_le _ _) fun v5 H5 l5 iv5 kp5 c5 => done c5 iv5 (by omega)
  · rw [decide_eq_false hin]
    refine iteF ?_
    refine item_in fun H3 sm3 => ?_
    have e0 : ∀ z : Str, z ≠ "" → decide (V.str ("" : Str) = V.str z) = false := fun z h => by
      rw [eqS]
      exact decide_eq_false (Ne.symm h)
    rw [show decide (("" : Str) ∈ (["in", "out", "wire"] : List Str)) = false by decide +kernel]
    refine iteF ⟨_, rfl, rfl, _, rfl, ?_⟩
    rw [e0 "reg" (by decide +kernel)]
    refine iteF ⟨_, rfl, rfl, _, rfl, ?_⟩
    rw [e0 "mem" (by decide +kernel)]
    refine iteF ⟨_, rfl, rfl, _, rfl, ?_⟩
    rw [e0 "for" (by decide +kernel)]
    refine iteF ⟨_, rfl, rfl, _, rfl, ?_⟩
    rw [e0 "when" (by decide +kernel)]
    refine iteF ?_
    have c2 := (c1.rowE (hs := STS) (b := ["NAME", "NAMED"]) (by decide +kernel) hin).same sm3
    refine ⟨_, rfl, _, rfl, t, r, x, l, st, rfl, c2.la, hl, c2.rn, hn, fun p h => c2.rz h, fun v H4 l4 iv4 kp4 la4 rn4 hp4 => ?_⟩
    have c4 : Cu ⟨C, CB, t, r, x, H, E⟩ l4 n (l.pl + 1) (";" :: st) H4 := ⟨la4, rn4, Nat.lt_of_le_of_lt (nest_le (by omega)) hn, hp4, c2.kp.trans kp4, hz, hl⟩
    exact rd_end (g := ⟨C, CB, t, r, x, H, E⟩) iv4 c4 (Nat.le_refl _) fun v6 H6 l6 iv6 kp6 c6 => done c6 iv6 (by omega)
theorem sc_items_here : FnScope ["lexer", "is_full", "found"] ["lexer", "is_full"] (defScope (topS 44)) := ⟨rfl, rfl, rfl, by decide +kernel, rfl, by decide +kernel, by decide +kernel⟩
def itS (b : Bool) (st : List Str) : List Str := if b = true then "ITEM" :: "ITEMS" :: "}" :: st else "ITEMS" :: "}" :: st
theorem items_first {g : Gh} {l : Lx} {m j n : Nat} {st : List Str} {H : Hp} {Q : VK} {b : Bool} {o : Option V} (c : Cu g l m j (itS b st) H) (hm : m ≤ n) (k : ∀ p xs H' l', H' p = some (.lst xs) → g.H0 p = none → xs.length ≤ 1 → Cu g l' m j ("ITEMS" :: "}" :: st) H' → Q (.ref p) H') :
    tIf (tB (tVar 1)) (tLst (tCons (tCall (spP g.C g.CB [] ["ITEM"] n 1) [] g.E (tCons (tVar 0) tNil)) tNil)) (tLst tNil) [some (.ref g.x), some (.bl b), o] H Q := by
  refine ⟨_, rfl, _, rfl, ?_⟩
  cases b with
  | true =>
    refine iteT (rd_call (g := g) (syms := ["ITEM"]) (st := "ITEMS" :: "}" :: st) (d := 1) rfl c hm fun v1 H1 l1 iv1 kp1 c1 => ⟨fit3 (by show 1 ≤ 10; decide), fun p hp => ?_⟩)
    exact k p [v1] _ l1 upd_same (c1.fresh hp) (Nat.le_refl 1) ((c1.up hp _).weak (Nat.le_refl _) (Nat.le_succ _))
  | false => exact iteF ⟨fit3 (Nat.zero_le _), fun p hp => k p [] _ l upd_same (c.fresh hp) (Nat.zero_le _) (c.up hp _)⟩
theorem ok_items_here (A : LA P K mg C CB f1 cc cda) (T : RdTx w K mg) {n k : Nat} (h5 : 5 ≤ k) (G_item_here : FnOk P w K mg base (L2.CX P w) k T.item_here.f T.item_here.fd ["lexer"] (spP C CB [] ["ITEM"] n 1)) :
    FnOk P w K mg base (L2.CX P w) (k + 1) T.items_here.f T.items_here.fd ["lexer", "is_full"] (spItems C CB (n + 1)) := by
  refine T.items_here.F.okX sc_items_here (fun vs H Q E h => ?_) (fun cdv _ outer s H vs Q E hr h => ?_)
  · rcases h with h | h <;>
    · obtain ⟨t, r, x, l, st, rfl, _⟩ := h
      rfl
  have h' : ∃ b t r x l st, vs = [.ref x, .bl b] ∧ LAt C t H x l ∧ t.length ≤ 1000000 ∧ Rn t r ("{" :: itS b st) l ∧ nest t l < n + 1 ∧ (∀ p, r = some p → Rz CB x H E p) ∧
      ∀ v H' l', IsT v H' → Kp x H H' → LAt C t H' x l' → Rn t r st l' → l.pl + 1 ≤ l'.pl → Q v H' := by
    rcases h with ⟨t, r, x, l, st, h⟩ | ⟨t, r, x, l, st, h⟩
    · exact ⟨false, t, r, x, l, st, h⟩
    · exact ⟨true, t, r, x, l, st, h⟩
  clear h
  obtain ⟨b, t, r, x, l, st, rfl, hL, hl, hrn, hn, hz, kk⟩ := h'
  have c : Cu ⟨C, CB, t, r, x, H, E⟩ l (n + 1) l.pl ("{" :: itS b st) H := ⟨hL, hrn, hn, Nat.le_refl _, Kp.refl _ _, hz, hl⟩
  have done : ∀ {v H' l' m j}, Cu ⟨C, CB, t, r, x, H, E⟩ l' m j st H' → IsT v H' → l.pl + 1 ≤ j → Q v H' := fun c' iv hj => kk _ _ _ iv c'.kp c'.la c'.rn (Nat.le_trans hj c'.pg)
  have nd := sc_items_here.nd
  have k4 := cN_4
  refine ⟨_, (pss_cons (ps_expr (pe_meth (pv 0) A.T.cl A.T.mTake.mt A.g_take (hr.mono (by omega)) A.T.mTake.b .nil passE (pa_cons pe_str pa_nil)))
    (pss_cons (ps_set (i := 2) nd rfl (.inl rfl) (pe_ifExp (pt_val (pv 1)) (pe_lst (pa_cons (pe_call G_item_here (hr.mono (by omega)) rfl T.item_here.g T.item_here.F.kp T.item_here.b .nil passE (pa_cons (pv 0) pa_nil)) pa_nil)) (pe_lst pa_nil)))
    (pss_cons (ps_while (passes_of rfl) (pt_not (pt_val (pe_meth (pv 0) A.T.cl A.T.mHas.mt A.g_has (hr.mono (by omega)) A.T.mHas.b .nil pass0 (pa_cons pe_str pa_nil)))) (pss_one (ps_expr (pe_bm PySem.F.plainAttrs_list PySem.F.slot_list_append PySem.F.type_list_append mt_append (pv 2) (pa_cons (pe_call G_item_here (hr.mono (by omega)) rfl T.item_here.g T.item_here.F.kp T.item_here.b .nil passE (pa_cons (pv 0) pa_nil)) pa_nil)))))
    (pss_one (ps_ret (pe_callTy call_tuple_of (by rfl) T.m_tuple (by decide +kernel) (pa_cons (pv 2) pa_nil))))))), ?_⟩
  refine rd_take (g := ⟨C, CB, t, r, x, H, E⟩) rfl c (tok_of (by decide +kernel)) (by decide +kernel) fun H1 _ kp1 c1 => ?_
  refine items_first (g := ⟨C, CB, t, r, x, H, E⟩) c1 (by omega) fun p xs H2 l2 h2 fp hxs c2 => ?_
  have q2 : l.pl + 1 ≤ l2.pl := c2.pg
  refine ⟨fun m σ H' => ∃ l2 xs, σ = [some (.ref x), some (.bl b), some (.ref p)] ∧ m = t.length - l2.pl ∧ l.pl + 1 ≤ l2.pl ∧ Cu ⟨C, CB, t, r, x, H, E⟩ l2 n l2.pl ("ITEMS" :: "}" :: st) H' ∧ LsI H p xs l2 H',
    ⟨_, l2, xs, rfl, rfl, q2, c2.here.weak (by omega) (Nat.le_refl _), h2, fp, by omega⟩, ?_⟩
  clear h2 hxs c2 q2
  rintro m σ H3 ⟨l3, xs, rfl, rfl, hj, c3, ls⟩
  have le3 : l3.pl + l3.tx.length ≤ t.length := c3.ok.le
  refine rd_has (g := ⟨C, CB, t, r, x, H, E⟩) (z := "}") rfl c3 (fun hx H4 kp4 hL4 => ⟨_, rfl, iteF ?_⟩) (fun hx => ⟨_, rfl, iteT ?_⟩)
  · have c4 := (c3.rowA (hs := ["}"]) (b := []) (by decide +kernel) (by rw [hx]; decide +kernel)).tok (tok_of (by decide +kernel)) (by decide +kernel) hx kp4 hL4
    exact ⟨_, rfl, p, xs, rfl, .inl ⟨SqL.of (lst_kp ls.hp c3.la kp4), fun q hq => done (c4.up hq _) IsT.new (by omega)⟩⟩
  · refine ⟨fun σ' H'' => ∃ m', m' < t.length - l3.pl ∧ ∃ l2 xs, σ' = [some (.ref x), some (.bl b), some (.ref p)] ∧ m' = t.length - l2.pl ∧ l.pl + 1 ≤ l2.pl ∧ Cu ⟨C, CB, t, r, x, H, E⟩ l2 n l2.pl ("ITEMS" :: "}" :: st) H'' ∧ LsI H p xs l2 H'', fun _ _ h => h, ?_⟩
    have c4 := c3.rowE (hs := ["}"]) (b := ["ITEM", "ITEMS"]) (by decide +kernel) (by rw [List.mem_singleton]; exact hx)
    refine ⟨_, rfl, lst_ty ls.hp, rd_call (g := ⟨C, CB, t, r, x, H, E⟩) (syms := ["ITEM"]) (st := "ITEMS" :: "}" :: st) (d := 1) rfl c4 (Nat.le_refl _) fun v5 H5 l5 iv5 kp5 c5 => ?_⟩
    have h5' := lst_kp ls.hp c4.la kp5
    have p5 : l3.pl + 1 ≤ l5.pl := c5.pg
    have le5 : l5.pl + l5.tx.length ≤ t.length := c5.ok.le
    exact ⟨p, xs, v5, rfl, rfl, h5', ls.fit c3.ok hl, t.length - l5.pl, by omega, l5, _, rfl, rfl, by omega, c5.here.set h5' ls.fp _, lsi_put ls h5' (by omega)⟩
theorem sc_module_here : FnScope ["lexer", "name", "sizes"] ["lexer"] (defScope (topS 45)) := ⟨rfl, rfl, rfl, by decide +kernel, rfl, by decide +kernel, by decide +kernel⟩
theorem ok_module_here (A : LA P K mg C CB f1 cc cda) (T : RdTx w K mg) {n k : Nat} (h5 : 5 ≤ k) (G_items_here : FnOk P w K mg base (L2.CX P w) k T.items_here.f T.items_here.fd ["lexer", "is_full"] (spItems C CB n)) :
    FnOk P w K mg base (L2.CX P w) (k + 1) T.module_here.f T.module_here.fd ["lexer"] (spP C CB [] ["MODULE"] (n) 1) := by
  refine T.module_here.F.okX sc_module_here (fun vs H Q E h => ?_) (fun cdv _ outer s H vs Q E hr h => ?_)
  · obtain ⟨t, r, x, l, st, rfl, _⟩ := h
    rfl
  obtain ⟨t, r, x, l, st, rfl, hL, hl, hrn, hn, hz, kk⟩ := h
  have c : Cu ⟨C, CB, t, r, x, H, E⟩ l (n) l.pl ("MODULE" :: st) H := ⟨hL, hrn, hn, Nat.le_refl _, Kp.refl _ _, hz, hl⟩
  have done : ∀ {v H' l' m j}, Cu ⟨C, CB, t, r, x, H, E⟩ l' m j st H' → IsT v H' → l.pl + 1 ≤ j → Q v H' := fun c' iv hj => kk _ _ _ iv c'.kp c'.la c'.rn (Nat.le_trans hj c'.pg)
  have nd := sc_module_here.nd
  refine ⟨_, (pss_cons (ps_expr (pe_meth (pv 0) A.T.cl A.T.mTake.mt A.g_take (hr.mono (by omega)) A.T.mTake.b .nil passE (pa_cons pe_str pa_nil)))
    (pss_cons (ps_par (i := 1) (j := 2) rfl nd rfl rfl (by decide) rfl rfl (pa_cons (pe_meth0 (pv 0) A.T.cl A.T.mName.mt A.g_name (hr.mono (by omega)) A.T.mName.b .nil passE) (pa_cons (pe_lst pa_nil) pa_nil)) (by rfl))
    (pss_cons (ps_if (pt_val (pe_meth (pv 0) A.T.cl A.T.mHas.mt A.g_has (hr.mono (by omega)) A.T.mHas.b .nil pass0 (pa_cons pe_str pa_nil))) (pss_cons (ps_expr (pe_bm PySem.F.plainAttrs_list PySem.F.slot_list_append PySem.F.type_list_append mt_append (pv 2) (pa_cons (pe_meth0 (pv 0) A.T.cl A.T.mName.mt A.g_name (hr.mono (by omega)) A.T.mName.b .nil passE) pa_nil)))
    (pss_one (ps_while (passes_of rfl) (pt_val (pe_meth (pv 0) A.T.cl A.T.mHas.mt A.g_has (hr.mono (by omega)) A.T.mHas.b .nil pass0 (pa_cons pe_str pa_nil))) (pss_one (ps_expr (pe_bm PySem.F.plainAttrs_list PySem.F.slot_list_append PySem.F.type_list_append mt_append (pv 2) (pa_cons (pe_meth0 (pv 0) A.T.cl A.T.mName.mt A.g_name (hr.mono (by omega)) A.T.mName.b .nil passE) pa_nil))))))) pss_nil)
    (pss_one (ps_ret (pe_tup (pa_cons (pv 1) (pa_cons (pe_callTy call_tuple_of (by rfl) T.m_tuple (by decide +kernel) (pa_cons (pv 2) pa_nil)) (pa_cons (pe_call G_items_here (hr.mono (by omega)) rfl T.items_here.g T.items_here.F.kp T.items1 (.cons (show L2.RelV (.bl false) (.bool false) from rfl) .nil) passE (pa_cons (pv 0) pa_nil)) pa_nil))))))))), ?_⟩
  have c0 := c.row1 (b := ["module", "NAME", "SIZENAMES", "{", "ITEMS", "}"]) (by decide +kernel)
  refine rd_take (g := ⟨C, CB, t, r, x, H, E⟩) rfl c0 (tok_of (by decide +kernel)) (by decide +kernel) fun H1 _ kp1 c1 => ?_
  refine rd_name (g := ⟨C, CB, t, r, x, H, E⟩) rfl c1 fun H2 _ kp2 c2 => ⟨fit3 (Nat.zero_le _), fun p hp => ⟨_, _, rfl, ?_⟩⟩
  have c3 := c2.up hp (.lst [])
  have h3 : (upd H2 p (.lst [])) p = some (.lst []) := upd_same
  have f3 := c2.fresh hp
  generalize upd H2 p (.lst []) = H3 at c3 h3 ⊢
  refine rd_hasR (g := ⟨C, CB, t, r, x, H, E⟩) (b := ["NAME", "MORENAMES"]) rfl c3 (by decide +kernel) (tok_of (by decide +kernel)) (by decide +kernel) (fun hx H4 kp4 c4 => ⟨_, rfl, iteT ?_⟩) (fun hx => ⟨_, rfl, iteF ?_⟩)
  · have h4 := lst_kp h3 c3.la kp4
    refine ⟨_, rfl, lst_ty h4, rd_name (g := ⟨C, CB, t, r, x, H, E⟩) rfl c4 fun H5 _ kp5 c5 => ?_⟩
    have h5' := lst_kp h4 c4.la kp5
    have p5 := c5.pg
    refine ⟨p, [], _, rfl, rfl, h5', Nat.lt_of_lt_of_le (by show 0 < 1; decide) (fit3 (by decide)), ?_⟩
    refine ⟨fun m σ H' => ∃ l2 xs o1, σ = [some (.ref x), o1, some (.ref p)] ∧ (∃ v, o1 = some v) ∧ m = t.length - l2.pl ∧ l.pl + 1 ≤ l2.pl ∧ Cu ⟨C, CB, t, r, x, H, E⟩ l2 n l2.pl ("MORENAMES" :: "{" :: "ITEMS" :: "}" :: st) H' ∧ LsI H p xs l2 H',
      ⟨_, _, [_], _, rfl, ⟨_, rfl⟩, rfl, by omega, ((c5.here.weak (by omega) (Nat.le_refl _)).set h5' f3 _), upd_same, f3, Nat.le_trans (Nat.le_add_left 1 _) p5⟩, ?_⟩
    clear h5' p5 h4
    rintro m σ H6 ⟨l6, xs, o1, rfl, ⟨v1, rfl⟩, rfl, hj, c6, ls⟩
    have le6 : l6.pl + l6.tx.length ≤ t.length := c6.ok.le
    refine rd_hasR (g := ⟨C, CB, t, r, x, H, E⟩) (b := ["NAME", "MORENAMES"]) rfl c6 (by decide +kernel) (tok_of (by decide +kernel)) (by decide +kernel) (fun hx H7 kp7 c7 => ⟨_, rfl, iteT ?_⟩) (fun hx => ⟨_, rfl, iteF ?_⟩)
    · refine ⟨fun σ' H'' => ∃ m', m' < t.length - l6.pl ∧ ∃ l2 xs o1, σ' = [some (.ref x), o1, some (.ref p)] ∧ (∃ v, o1 = some v) ∧ m' = t.length - l2.pl ∧ l.pl + 1 ≤ l2.pl ∧ Cu ⟨C, CB, t, r, x, H, E⟩ l2 n l2.pl ("MORENAMES" :: "{" :: "ITEMS" :: "}" :: st) H'' ∧ LsI H p xs l2 H'', fun _ _ h => h, ?_⟩
      have h7 := lst_kp ls.hp c6.la kp7
      refine ⟨_, rfl, lst_ty h7, rd_name (g := ⟨C, CB, t, r, x, H, E⟩) rfl c7 fun H8 _ kp8 c8 => ?_⟩
      have h8 := lst_kp h7 c7.la kp8
      have p8 : l6.pl + 1 + 1 ≤ (nx t (nx t l6)).pl := c8.pg
      have le8 : (nx t (nx t l6)).pl + (nx t (nx t l6)).tx.length ≤ t.length := c8.ok.le
      exact ⟨p, xs, _, rfl, rfl, h8, ls.fit c6.ok hl, t.length - (nx t (nx t l6)).pl, by omega, _, _, _, rfl, ⟨_, rfl⟩, rfl, by omega, (c8.here.weak (Nat.sub_le _ _) (Nat.le_refl _)).set h8 ls.fp _, lsi_put ls h8 (by omega)⟩
    · have c7 := c6.rowE (hs := [","]) (b := []) (by decide +kernel) (by rw [List.mem_singleton]; exact hx)
      exact ⟨_, rfl, _, rfl, p, xs, rfl, .inl ⟨SqL.of ls.hp, fun q hq => rd_items (g := ⟨C, CB, t, r, x, H, E⟩) rfl (c7.up hq _) (Nat.le_refl _) fun v9 H9 l9 iv9 kp9 c9 => ⟨fit3 (by show 3 ≤ 10; decide), fun q2 hq2 => done (c9.up hq2 _) IsT.new (by omega)⟩⟩⟩
  · have c4 := c3.rowE (hs := ["size"]) (b := []) (by decide +kernel) (by rw [List.mem_singleton]; exact hx)
    exact ⟨_, rfl, _, rfl, p, [], rfl, .inl ⟨SqL.of h3, fun q hq => rd_items (g := ⟨C, CB, t, r, x, H, E⟩) rfl (c4.up hq _) (Nat.sub_le _ _) fun v9 H9 l9 iv9 kp9 c9 => ⟨fit3 (by show 3 ≤ 10; decide), fun q2 hq2 => done (c9.up hq2 _) IsT.new (by omega)⟩⟩⟩
end
end K04
end

section
set_option Elab.async false
set_option maxRecDepth 100000
set_option maxHeartbeats 4000000
set_option pp.maxSteps 2000
/-! K15: designs, the three reads, and every def of the parser by the depth of its text. -/
namespace K04
open PySem L2 PyProof.Rows
theorem Rn.mkNo {t : List Nat} {z : Str} {st : List Str} {l : Lx} (k : Tok z) (ok : LxOk t l) (hx : S l.tx ≠ z) : Rn t (some l.pl) (z :: st) l := by
  refine ⟨1, ?_⟩
  have e : step t (z :: st) l = .fail l.pl := by
    show step1 t z st l = _
    unfold step1
    rw [k.no]
    dsimp only
    rw [if_neg (fun q => k.np q.1), if_neg (by rw [k.f t l ok, decide_eq_false hx]; decide)]
  unfold out
  rw [e]
theorem Rn.mkRow {t : List Nat} {r : Option Nat} {A : Str} {b st : List Str} {l : Lx} (e : RowE A [] b) (hn : A ≠ ("NUMPART" : Str)) (h : Rn t r (b ++ st) l) : Rn t r (A :: st) l := by
  obtain ⟨n, h⟩ := h
  refine ⟨n + 1, ?_⟩
  unfold RowE at e
  cases q : rowsOf A with
  | none => rw [q] at e; cases e
  | some rows =>
    rw [q] at e
    have e' := Option.some.inj e
    have e1 : headsOf rows = [] := congrArg (·.1) e'
    have e2 : lastOf rows = b := congrArg (·.2.1) e'
    have e3 : lastNone rows = true := congrArg (·.2.2) e'
    have es : step t (A :: st) l = .go (b ++ st) l := by
      show step1 t A st l = _
      unfold step1
      rw [q]
      dsimp only
      rw [pick_else rows e3 (by rw [e1]; exact List.not_mem_nil), e2]
    unfold out
    rw [es]
    dsimp only
    rw [h]
    have hl : long (A :: st) l = false := by
      unfold long
      dsimp only
      rw [decide_eq_false hn, Bool.false_and, Bool.false_and]
    rw [hl]
    rfl
structure TxTx (K : PySem.W.Frag) (mg : Str → Option Value) where
  read_design : Df K mg "read_design" (topS 48) ["text"]
  read_expression : Df K mg "read_expression" (topS 49) ["text"]
  read_number : Df K mg "read_number" (topS 50) ["text"]
section
variable {P : Program} {w : World} {K : PySem.W.Frag} {mg : Str → Option Value} {base : Heap} {C CB f1 cc cda : Addr}
theorem LA.g_lexer (A : LA P K mg C CB f1 cc cda) : FnOk P w K mg base CX0 4 A.T.mInit.f A.T.mInit.fd ["self", "text"] (spLexer C) := ok_lexer A.L A.T
theorem sc_design_here : FnScope ["lexer", "modules", "top"] ["lexer"] (defScope (topS 46)) := ⟨rfl, rfl, rfl, by decide +kernel, rfl, by decide +kernel, by decide +kernel⟩
def spDesign (C CB : Addr) (n : Nat) : Sp := fun vs H Q E => ∃ t r x l st, vs = [.ref x] ∧ LAt C t H x l ∧ t.length ≤ 1000000 ∧ Rn t r ("DESIGN" :: st) l ∧ nest t l < n ∧ (∀ p, r = some p → Rz CB x H E p) ∧
  ∀ v H' l', IsT v H' → Kp x H H' → LAt C t H' x l' → Rn t r ("END" :: st) l' → l.pl + 1 ≤ l'.pl → Q v H'
theorem ok_design_here (A : LA P K mg C CB f1 cc cda) (T : RdTx w K mg) {n k : Nat} (h5 : 5 ≤ k) (G_module_here : FnOk P w K mg base (L2.CX P w) k T.module_here.f T.module_here.fd ["lexer"] (spP C CB [] ["MODULE"] n 1))
    (G_sizes_here : FnOk P w K mg base (L2.CX P w) k T.sizes_here.f T.sizes_here.fd ["lexer"] (spP C CB [] ["SIZES"] n 0)) :
    FnOk P w K mg base (L2.CX P w) (k + 1) T.design_here.f T.design_here.fd ["lexer"] (spDesign C CB n) := by
  refine T.design_here.F.okX sc_design_here (fun vs H Q E h => ?_) (fun cdv _ outer s H vs Q E hr h => ?_)
  · obtain ⟨t, r, x, l, st, rfl, _⟩ := h
    rfl
  obtain ⟨t, r, x, l, st, rfl, hL, hl, hrn, hn, hz, kk⟩ := h
  have c : Cu ⟨C, CB, t, r, x, H, E⟩ l n l.pl ("DESIGN" :: st) H := ⟨hL, hrn, hn, Nat.le_refl _, Kp.refl _ _, hz, hl⟩
  have done : ∀ {v H' l' m j}, Cu ⟨C, CB, t, r, x, H, E⟩ l' m j ("END" :: st) H' → IsT v H' → l.pl + 1 ≤ j → Q v H' := fun c' iv hj => kk _ _ _ iv c'.kp c'.la c'.rn (Nat.le_trans hj c'.pg)
  have nd := sc_design_here.nd
  refine ⟨_, (pss_cons (ps_expr (pe_meth (pv 0) A.T.cl A.T.mTake.mt A.g_take (hr.mono (by omega)) A.T.mTake.b .nil passE (pa_cons pe_str pa_nil)))
    (pss_cons (ps_expr (pe_meth (pv 0) A.T.cl A.T.mTake.mt A.g_take (hr.mono (by omega)) A.T.mTake.b .nil passE (pa_cons pe_str pa_nil)))
    (pss_cons (ps_set (i := 1) nd rfl (.inl rfl) (pe_lst (pa_cons (pe_call G_module_here (hr.mono (by omega)) rfl T.module_here.g T.module_here.F.kp T.module_here.b .nil passE (pa_cons (pv 0) pa_nil)) pa_nil)))
    (pss_cons (ps_while (passes_of rfl) (pt_not (pt_val (pe_meth (pv 0) A.T.cl A.T.mHas.mt A.g_has (hr.mono (by omega)) A.T.mHas.b .nil pass0 (pa_cons pe_str pa_nil)))) (pss_one (ps_expr (pe_bm PySem.F.plainAttrs_list PySem.F.slot_list_append PySem.F.type_list_append mt_append (pv 1) (pa_cons (pe_call G_module_here (hr.mono (by omega)) rfl T.module_here.g T.module_here.F.kp T.module_here.b .nil passE (pa_cons (pv 0) pa_nil)) pa_nil)))))
    (pss_cons (ps_set (i := 2) nd rfl (.inl rfl) (pe_tup (pa_cons (pe_meth0 (pv 0) A.T.cl A.T.mName.mt A.g_name (hr.mono (by omega)) A.T.mName.b .nil passE) (pa_cons (pe_call G_sizes_here (hr.mono (by omega)) rfl T.sizes_here.g T.sizes_here.F.kp T.sizes_here.b .nil passE (pa_cons (pv 0) pa_nil)) pa_nil))))
    (pss_cons (ps_expr (pe_meth (pv 0) A.T.cl A.T.mTake.mt A.g_take (hr.mono (by omega)) A.T.mTake.b .nil passE (pa_cons pe_str pa_nil)))
    (pss_cons (ps_expr (pe_meth (pv 0) A.T.cl A.T.mTake.mt A.g_take (hr.mono (by omega)) A.T.mTake.b .nil passE (pa_cons pe_str pa_nil)))
    (pss_one (ps_ret (pe_tup (pa_cons (pe_callTy call_tuple_of (by rfl) T.m_tuple (by decide +kernel) (pa_cons (pv 1) pa_nil)) (pa_cons (pv 2) pa_nil)))))))))))), ?_⟩
  have c0 := c.row1 (b := ["design", "{", "MODULE", "MODULES", "top", "NAME", "SIZES", ";", "}", "END"]) (by decide +kernel)
  refine rd_take (g := ⟨C, CB, t, r, x, H, E⟩) rfl c0 (tok_of (by decide +kernel)) (by decide +kernel) fun H1 _ kp1 c1 => ?_
  refine rd_take (g := ⟨C, CB, t, r, x, H, E⟩) rfl c1 (tok_of (by decide +kernel)) (by decide +kernel) fun H2 _ kp2 c2 => ?_
  refine rd_call (g := ⟨C, CB, t, r, x, H, E⟩) (syms := ["MODULE"]) (st := "MODULES" :: "top" :: "NAME" :: "SIZES" :: ";" :: "}" :: "END" :: st) (d := 1) rfl c2 (by omega) fun v3 H3 l3 iv3 kp3 c3 => ⟨fit3 (by show 1 ≤ 10; decide), fun p hp => ?_⟩
  have p3 := c3.pg
  refine ⟨fun m σ H' => ∃ l2 xs, σ = [some (.ref x), some (.ref p), none] ∧ m = t.length - l2.pl ∧ l.pl + 1 ≤ l2.pl ∧ Cu ⟨C, CB, t, r, x, H, E⟩ l2 n l2.pl ("MODULES" :: "top" :: "NAME" :: "SIZES" :: ";" :: "}" :: "END" :: st) H' ∧ LsI H p xs l2 H',
    ⟨_, l3, [v3], rfl, rfl, by omega, (c3.here.weak (by omega) (Nat.le_refl _)).up hp _, upd_same, c3.fresh hp, Nat.le_trans (Nat.le_add_left 1 _) p3⟩, ?_⟩
  clear p3
  rintro m σ H4 ⟨l4, xs, rfl, rfl, hj, c4, ls⟩
  have le4 : l4.pl + l4.tx.length ≤ t.length := c4.ok.le
  refine rd_has (g := ⟨C, CB, t, r, x, H, E⟩) (z := "top") rfl c4 (fun hx H5 kp5 hL5 => ⟨_, rfl, iteF ?_⟩) (fun hx => ⟨_, rfl, iteT ?_⟩)
  · have c5 := (c4.rowE (hs := ["module"]) (b := []) (by decide +kernel) (by rw [hx]; decide +kernel)).tok (tok_of (by decide +kernel)) (by decide +kernel) hx kp5 hL5
    have h5' := lst_kp ls.hp c4.la kp5
    refine rd_name (g := ⟨C, CB, t, r, x, H, E⟩) rfl c5 fun H6 _ kp6 c6 => ?_
    have h6 := lst_kp h5' c5.la kp6
    refine rd_call (g := ⟨C, CB, t, r, x, H, E⟩) (syms := ["SIZES"]) (st := ";" :: "}" :: "END" :: st) (d := 0) rfl c6 (Nat.sub_le _ _) fun v7 H7 l7 iv7 kp7 c7 => ⟨fit3 (by show 2 ≤ 10; decide), fun q hq => ?_⟩
    have h7 := lst_kp h6 c6.la kp7
    have c8 := c7.up hq (.tup [.str (S (nx t l4).tx), v7])
    have h8 := same_up hq (.tup [.str (S (nx t l4).tx), v7]) _ _ h7
    refine rd_take (g := ⟨C, CB, t, r, x, H, E⟩) rfl c8 (tok_of (by decide +kernel)) (by decide +kernel) fun H9 _ kp9 c9 => ?_
    refine rd_take (g := ⟨C, CB, t, r, x, H, E⟩) rfl c9 (tok_of (by decide +kernel)) (by decide +kernel) fun H10 _ kp10 c10 => ?_
    have h10 := lst_kp (lst_kp h8 c8.la kp9) c9.la kp10
    exact ⟨_, rfl, p, xs, rfl, .inl ⟨SqL.of h10, fun q2 hq2 => ⟨_, rfl, fit3 (by show 2 ≤ 10; decide), fun q3 hq3 => done ((c10.up hq2 _).up hq3 _) IsT.new (by omega)⟩⟩⟩
  · refine ⟨fun σ' H'' => ∃ m', m' < t.length - l4.pl ∧ ∃ l2 xs, σ' = [some (.ref x), some (.ref p), none] ∧ m' = t.length - l2.pl ∧ l.pl + 1 ≤ l2.pl ∧ Cu ⟨C, CB, t, r, x, H, E⟩ l2 n l2.pl ("MODULES" :: "top" :: "NAME" :: "SIZES" :: ";" :: "}" :: "END" :: st) H'' ∧ LsI H p xs l2 H'', fun _ _ h => h, ?_⟩
    have c5 : Cu ⟨C, CB, t, r, x, H, E⟩ l4 n l4.pl ("MODULE" :: "MODULES" :: "top" :: "NAME" :: "SIZES" :: ";" :: "}" :: "END" :: st) H4 := by
      by_cases hm : S l4.tx = ("module" : Str)
      · exact c4.rowA (hs := ["module"]) (b := ["MODULE", "MODULES"]) (by decide +kernel) (by rw [hm]; decide +kernel)
      · have c5 := c4.rowE (hs := ["module"]) (b := []) (by decide +kernel) (by rw [List.mem_singleton]; exact hm)
        have e : r = some l4.pl := c5.rn.tokNo (tok_of (by decide +kernel)) c5.ok hx
        refine c4.row ?_
        show Rn t r _ l4
        rw [e]
        exact Rn.mkRow (b := ["module", "NAME", "SIZENAMES", "{", "ITEMS", "}"]) (by decide +kernel) (by decide +kernel) (Rn.mkNo (tok_of (by decide +kernel)) c4.ok hm)
    refine ⟨_, rfl, lst_ty ls.hp, rd_call (g := ⟨C, CB, t, r, x, H, E⟩) (syms := ["MODULE"]) (st := "MODULES" :: "top" :: "NAME" :: "SIZES" :: ";" :: "}" :: "END" :: st) (d := 1) rfl c5 (Nat.le_refl _) fun v5 H5 l5 iv5 kp5 c6 => ?_⟩
    have h5' := lst_kp ls.hp c5.la kp5
    have p5 : l4.pl + 1 ≤ l5.pl := c6.pg
    have le5 : l5.pl + l5.tx.length ≤ t.length := c6.ok.le
    exact ⟨p, xs, v5, rfl, rfl, h5', ls.fit c4.ok hl, t.length - l5.pl, by omega, l5, _, rfl, rfl, by omega, c6.here.set h5' ls.fp _, lsi_put ls h5' (by omega)⟩

/-! ### the three reads -/
def spRead (CB : Addr) (form : Str) (n : Nat) : Sp := fun vs H Q E => ∃ t r, vs = [.str (S t)] ∧ t.length ≤ 1000000 ∧ Rn t r [form] (lexAt t 0) ∧ nest t (lexAt t 0) < n ∧
  (∀ p : Nat, r = some p → ∀ H' d, Same H H' → H' d = some (.xd [("place", .int p)]) → E (.ref CB) (some d) H') ∧ (r = none → ∀ v H', IsT v H' → Same H H' → Q v H')
theorem kp_same {x : Addr} {H H' : Hp} (hx : H x = none) (k : Kp x H H') : Same H H' := fun b o e => k b o e (fun z => by
  subst z
  rw [hx] at e
  cases e)
theorem kp_made {x dx : Addr} {H H' : Hp} {o1 o2 : HO} (hx : H x = none) (hd : H dx = none) (k : Kp x (upd (upd H dx o1) x o2) H') : Kp x H H' := fun b o e n => k b o (by
  rw [upd_ne n, upd_ne (fun z => by subst z; rw [hd] at e; cases e)]
  exact e) n
theorem rd_finish {g : Gh} {l : Lx} {m j : Nat} {H : Hp} {Q : VK} {σ : L2.St} (hσ : σ[1]? = some (some (.ref g.x))) (c : Cu g l m j ["END"] H) (k : g.r = none → Q .non H) :
    tMeth g.C "finish" (spFinish g.C g.CB) [] g.E (tVar 1) tNil σ H Q := by
  obtain ⟨dx, q, hx, _⟩ := c.ins
  exact ⟨_, hσ, g.x, dx, _, rfl, hx, lfs_no g.t q (by decide +kernel) (by decide +kernel), g.t, g.x, l, rfl, c.la, fun e => k (c.rn.ende e).fin, fun e => c.rz (c.rn.endNo e)⟩
theorem sc_read_design : FnScope ["text", "lexer", "design"] ["text"] (defScope (topS 48)) := ⟨rfl, rfl, rfl, by decide +kernel, rfl, by decide +kernel, by decide +kernel⟩
theorem ok_read_design (A : LA P K mg C CB f1 cc cda) (T : RdTx w K mg) (X : TxTx K mg) {n k : Nat} (h5 : 5 ≤ k) (G_design_here : FnOk P w K mg base (L2.CX P w) k T.design_here.f T.design_here.fd ["lexer"] (spDesign C CB n)) :
    FnOk P w K mg base (L2.CX P w) (k + 1) X.read_design.f X.read_design.fd ["text"] (spRead CB "DESIGN" n) := by
  refine X.read_design.F.okX sc_read_design (fun vs H Q E h => ?_) (fun cdv _ outer s H vs Q E hr h => ?_)
  · obtain ⟨t, r, rfl, _⟩ := h
    rfl
  obtain ⟨t, r, rfl, hl, hrn, hn, hz, kk⟩ := h
  have nd := sc_read_design.nd
  refine ⟨_, (pss_cons (ps_set (i := 1) nd rfl (.inl rfl) (pe_make A.T.mkC A.g_lexer (hr.mono (by omega)) rfl A.T.mgC A.T.mInit.b .nil pass0 (pa_cons (pv 0) pa_nil)))
    (pss_cons (ps_set (i := 2) nd rfl (.inl rfl) (pe_call G_design_here (hr.mono (by omega)) rfl T.design_here.g T.design_here.F.kp T.design_here.b .nil passE (pa_cons (pv 1) pa_nil)))
    (pss_cons (ps_expr (pe_meth0 (pv 1) A.T.cl A.T.mFin.mt A.g_finish (hr.mono (by omega)) A.T.mFin.b .nil passE))
    (pss_one (ps_ret (pv 2)))))), ?_⟩
  refine ⟨_, rfl, fun x dx hx hd hne => ⟨t, x, dx, rfl, upd_same, hl, fun H1 kp1 hL1 => ⟨rfl, ?_⟩⟩⟩
  have c : Cu ⟨C, CB, t, r, x, H, E⟩ (lexAt t 0) n (lexAt t 0).pl ["DESIGN"] H1 := ⟨hL1, hrn, hn, Nat.le_refl _, kp_made hx hd kp1, fun p e H' d k' e' => hz p e H' d (kp_same hx k') e', hl⟩
  refine ⟨_, rfl, t, r, x, _, [], rfl, c.la, hl, c.rn, hn, fun p h => c.rz h, fun v2 H2 l2 iv2 kp2 la2 rn2 hp2 => ?_⟩
  have c2 : Cu ⟨C, CB, t, r, x, H, E⟩ l2 n l2.pl ["END"] H2 := ⟨la2, rn2, Nat.lt_of_le_of_lt (nest_le (by omega)) hn, Nat.le_refl _, c.kp.trans kp2, c.hz, hl⟩
  exact rd_finish (g := ⟨C, CB, t, r, x, H, E⟩) rfl c2 fun e => ⟨v2, rfl, kk e v2 H2 iv2 (kp_same hx c2.kp)⟩
theorem sc_read_expression : FnScope ["text", "lexer", "expression"] ["text"] (defScope (topS 49)) := ⟨rfl, rfl, rfl, by decide +kernel, rfl, by decide +kernel, by decide +kernel⟩
theorem ok_read_expression (A : LA P K mg C CB f1 cc cda) (T : RdTx w K mg) (X : TxTx K mg) {n k : Nat} (h5 : 5 ≤ k) (G_expression_here : FnOk P w K mg base (L2.CX P w) k T.expression_here.f T.expression_here.fd ["lexer"] (spP C CB [] ["E"] n 1)) :
    FnOk P w K mg base (L2.CX P w) (k + 1) X.read_expression.f X.read_expression.fd ["text"] (spRead CB "EWHOLE" n) := by
  refine X.read_expression.F.okX sc_read_expression (fun vs H Q E h => ?_) (fun cdv _ outer s H vs Q E hr h => ?_)
  · obtain ⟨t, r, rfl, _⟩ := h
    rfl
  obtain ⟨t, r, rfl, hl, hrn, hn, hz, kk⟩ := h
  have nd := sc_read_expression.nd
  refine ⟨_, (pss_cons (ps_set (i := 1) nd rfl (.inl rfl) (pe_make A.T.mkC A.g_lexer (hr.mono (by omega)) rfl A.T.mgC A.T.mInit.b .nil pass0 (pa_cons (pv 0) pa_nil)))
    (pss_cons (ps_set (i := 2) nd rfl (.inl rfl) (pe_call G_expression_here (hr.mono (by omega)) rfl T.expression_here.g T.expression_here.F.kp T.expression_here.b .nil passE (pa_cons (pv 1) pa_nil)))
    (pss_cons (ps_expr (pe_meth0 (pv 1) A.T.cl A.T.mFin.mt A.g_finish (hr.mono (by omega)) A.T.mFin.b .nil passE))
    (pss_one (ps_ret (pv 2)))))), ?_⟩
  refine ⟨_, rfl, fun x dx hx hd hne => ⟨t, x, dx, rfl, upd_same, hl, fun H1 kp1 hL1 => ⟨rfl, ?_⟩⟩⟩
  have c : Cu ⟨C, CB, t, r, x, H, E⟩ (lexAt t 0) n (lexAt t 0).pl ["EWHOLE"] H1 := ⟨hL1, hrn, hn, Nat.le_refl _, kp_made hx hd kp1, fun p e H' d k' e' => hz p e H' d (kp_same hx k') e', hl⟩
  have c1 := c.row1 (b := ["E", "END"]) (by decide +kernel)
  refine ⟨_, rfl, t, r, x, _, ["END"], rfl, c1.la, hl, c1.rn, hn, fun p h => c1.rz h, fun v2 H2 l2 iv2 kp2 la2 rn2 hp2 => ?_⟩
  have c2 : Cu ⟨C, CB, t, r, x, H, E⟩ l2 n l2.pl ["END"] H2 := ⟨la2, rn2, Nat.lt_of_le_of_lt (nest_le (by omega)) hn, Nat.le_refl _, c.kp.trans kp2, c.hz, hl⟩
  exact rd_finish (g := ⟨C, CB, t, r, x, H, E⟩) rfl c2 fun e => ⟨v2, rfl, kk e v2 H2 iv2 (kp_same hx c2.kp)⟩
theorem sc_read_number : FnScope ["text", "lexer", "number"] ["text"] (defScope (topS 50)) := ⟨rfl, rfl, rfl, by decide +kernel, rfl, by decide +kernel, by decide +kernel⟩
theorem ok_read_number (A : LA P K mg C CB f1 cc cda) (T : RdTx w K mg) (X : TxTx K mg) {n k : Nat} (h5 : 5 ≤ k) (G_number_here : FnOk P w K mg base (L2.CX P w) k T.number_here.f T.number_here.fd ["lexer"] (spP C CB [] ["NUM"] n 1)) :
    FnOk P w K mg base (L2.CX P w) (k + 1) X.read_number.f X.read_number.fd ["text"] (spRead CB "NUMWHOLE" n) := by
  refine X.read_number.F.okX sc_read_number (fun vs H Q E h => ?_) (fun cdv _ outer s H vs Q E hr h => ?_)
  · obtain ⟨t, r, rfl, _⟩ := h
    rfl
  obtain ⟨t, r, rfl, hl, hrn, hn, hz, kk⟩ := h
  have nd := sc_read_number.nd
  refine ⟨_, (pss_cons (ps_set (i := 1) nd rfl (.inl rfl) (pe_make A.T.mkC A.g_lexer (hr.mono (by omega)) rfl A.T.mgC A.T.mInit.b .nil pass0 (pa_cons (pv 0) pa_nil)))
    (pss_cons (ps_set (i := 2) nd rfl (.inl rfl) (pe_call G_number_here (hr.mono (by omega)) rfl T.number_here.g T.number_here.F.kp T.number_here.b .nil passE (pa_cons (pv 1) pa_nil)))
    (pss_cons (ps_expr (pe_meth0 (pv 1) A.T.cl A.T.mFin.mt A.g_finish (hr.mono (by omega)) A.T.mFin.b .nil passE))
    (pss_one (ps_ret (pv 2)))))), ?_⟩
  refine ⟨_, rfl, fun x dx hx hd hne => ⟨t, x, dx, rfl, upd_same, hl, fun H1 kp1 hL1 => ⟨rfl, ?_⟩⟩⟩
  have c : Cu ⟨C, CB, t, r, x, H, E⟩ (lexAt t 0) n (lexAt t 0).pl ["NUMWHOLE"] H1 := ⟨hL1, hrn, hn, Nat.le_refl _, kp_made hx hd kp1, fun p e H' d k' e' => hz p e H' d (kp_same hx k') e', hl⟩
  have c1 := c.row1 (b := ["NUM", "END"]) (by decide +kernel)
  refine ⟨_, rfl, t, r, x, _, ["END"], rfl, c1.la, hl, c1.rn, hn, fun p h => c1.rz h, fun v2 H2 l2 iv2 kp2 la2 rn2 hp2 => ?_⟩
  have c2 : Cu ⟨C, CB, t, r, x, H, E⟩ l2 n l2.pl ["END"] H2 := ⟨la2, rn2, Nat.lt_of_le_of_lt (nest_le (by omega)) hn, Nat.le_refl _, c.kp.trans kp2, c.hz, hl⟩
  exact rd_finish (g := ⟨C, CB, t, r, x, H, E⟩) rfl c2 fun e => ⟨v2, rfl, kk e v2 H2 iv2 (kp_same hx c2.kp)⟩

/-! ### by the depth -/
theorem p_zero {ex : List V} {syms : List Str} {d : Nat} {vs : List V} {H : Hp} {Q : VK} {E : XK} (h : spP C CB ex syms 0 d vs H Q E) : False := by
  obtain ⟨_, _, _, _, _, _, _, _, _, h, _⟩ := h
  exact absurd h (Nat.not_lt_zero _)
theorem num_ok (A : LA P K mg C CB f1 cc cda) (T : RdTx w K mg) : ∀ n, FnOk P w K mg base (L2.CX P w) (4 * n + 6) T.number_here.f T.number_here.fd ["lexer"] (spP C CB [] ["NUM"] n 1)
  | 0 => fn_no.imp fun _ _ _ _ h => p_zero h
  | n + 1 => ok_number_here A T (k := 4 * n + 9) (by omega) ((ok_read_chain A T (k0 := 4 * n + 8) (by omega) (ok_part_hereN T (ok_read_number_part A T (by omega) (num_ok A T n)))))
theorem numbers_ok (A : LA P K mg C CB f1 cc cda) (T : RdTx w K mg) (n : Nat) : FnOk P w K mg base (L2.CX P w) (4 * n + 7) T.numbers_here.f T.numbers_here.fd ["lexer"] (spP C CB [] ["NUM", "MORENUMS"] n 1) := ok_numbers_here A T (by omega) (num_ok A T n)
theorem place_ok (A : LA P K mg C CB f1 cc cda) (T : RdTx w K mg) (n : Nat) : FnOk P w K mg base (L2.CX P w) (4 * n + 8) T.place_here.f T.place_here.fd ["lexer"] (spPlace C CB n) := ok_place_here A T (by omega) (numbers_ok A T n)
theorem expr_ok (A : LA P K mg C CB f1 cc cda) (T : RdTx w K mg) : ∀ n, FnOk P w K mg base (L2.CX P w) (5 * n + 12) T.expression_here.f T.expression_here.fd ["lexer"] (spP C CB [] ["E"] n 1) ∧ FnOk P w K mg base (L2.CX P w) (5 * n + 8) T.read_atom.f T.read_atom.fd ["lexer"] (spP C CB [] ["ATOM"] n 1)
  | 0 => ⟨fn_no.imp fun _ _ _ _ h => p_zero h, fn_no.imp fun _ _ _ _ h => p_zero h⟩
  | n + 1 => by
    obtain ⟨ge, ga⟩ := expr_ok A T n
    have gn := num_ok (base := base) A T (n + 1)
    have a1 := ok_read_atom A T (n := n) (k := 5 * n + 12) (by omega) (gn.mono (by omega)) ((place_ok A T (n + 1)).mono (by omega)) ge (ga.mono (by omega))
    have a2 := ok_read_part_here A T (n := n + 1) (k := 5 * n + 13) (by omega) (gn.mono (by omega)) a1
    have a3 := ok_read_chain A T (k0 := 5 * n + 15) (by omega) (ok_part_hereE T a2)
    exact ⟨ok_expression_here A T (k := 5 * n + 16) (by omega) a3 (ge.mono (by omega)), a1⟩
theorem sizes_ok (A : LA P K mg C CB f1 cc cda) (T : RdTx w K mg) (n : Nat) : FnOk P w K mg base (L2.CX P w) (4 * n + 8) T.sizes_here.f T.sizes_here.fd ["lexer"] (spP C CB [] ["SIZES"] n 0) := ok_sizes_here A T (by omega) (numbers_ok A T n)
theorem width_ok (A : LA P K mg C CB f1 cc cda) (T : RdTx w K mg) (n : Nat) : FnOk P w K mg base (L2.CX P w) (4 * n + 7) T.width_here.f T.width_here.fd ["lexer"] (spP C CB [] ["bits", "NUM"] n 1) := ok_width_here A T (by omega) (num_ok A T n)
theorem reg_ok (A : LA P K mg C CB f1 cc cda) (T : RdTx w K mg) (n : Nat) : FnOk P w K mg base (L2.CX P w) (5 * n + 13) T.reg_here.f T.reg_here.fd ["lexer"] (spP C CB [] ["NAME", "bits", "NUM", "=", "NUM", "<-", "E"] n 1) :=
  ok_reg_here A T (by omega) ((num_ok A T n).mono (by omega)) ((width_ok A T n).mono (by omega)) (expr_ok A T n).1
theorem mem_ok (A : LA P K mg C CB f1 cc cda) (T : RdTx w K mg) (n : Nat) : FnOk P w K mg base (L2.CX P w) (5 * n + 13) T.mem_here.f T.mem_here.fd ["lexer"] (spP C CB [] ["NAME", "[", "NUM", "]", "bits", "NUM", "[", "E", "]", "<-", "E", "when", "E"] n 1) :=
  ok_mem_here A T (by omega) ((num_ok A T n).mono (by omega)) ((width_ok A T n).mono (by omega)) (expr_ok A T n).1
theorem ports_ok (A : LA P K mg C CB f1 cc cda) (T : RdTx w K mg) (n : Nat) : FnOk P w K mg base (L2.CX P w) (5 * n + 13) T.ports_here.f T.ports_here.fd ["lexer"] (spP C CB [] ["(", "PORTS", ")"] n 1) := ok_ports_here A T (by omega) (expr_ok A T n).1
theorem named_ok (A : LA P K mg C CB f1 cc cda) (T : RdTx w K mg) (n : Nat) : FnOk P w K mg base (L2.CX P w) (5 * n + 14) T.named_here.f T.named_here.fd ["lexer"] (spNamed C CB n) :=
  ok_named_here A T (by omega) ((place_ok A T n).mono (by omega)) ((sizes_ok A T n).mono (by omega)) (ports_ok A T n) ((expr_ok A T n).1.mono (by omega))
theorem item_of (A : LA P K mg C CB f1 cc cda) (T : RdTx w K mg) (n : Nat) (gi : FnOk P w K mg base (L2.CX P w) (5 * n + 14) T.items_here.f T.items_here.fd ["lexer", "is_full"] (spItems C CB n)) :
    FnOk P w K mg base (L2.CX P w) (5 * n + 16) T.item_here.f T.item_here.fd ["lexer"] (spP C CB [] ["ITEM"] n 1) := by
  have ge := ok_each_here A T (n := n) (k := 5 * n + 14) (by omega) ((num_ok A T n).mono (by omega)) gi
  have gw := ok_when_here A T (n := n) (k := 5 * n + 14) (by omega) ((num_ok A T n).mono (by omega)) gi
  have gend : FnOk P w K mg base (L2.CX P w) 6 T.end_here.f T.end_here.fd ["lexer", "item"] (spEnd C CB n) := ok_end_here A T (Nat.le_refl 5)
  exact ok_item_here A T (k := 5 * n + 15) (by omega) ((width_ok A T n).mono (by omega)) ((reg_ok A T n).mono (by omega)) ((mem_ok A T n).mono (by omega)) ge gw ((named_ok A T n).mono (by omega)) (gend.mono (by omega))
theorem items_ok (A : LA P K mg C CB f1 cc cda) (T : RdTx w K mg) : ∀ n, FnOk P w K mg base (L2.CX P w) (5 * n + 14) T.items_here.f T.items_here.fd ["lexer", "is_full"] (spItems C CB n)
  | 0 => fn_no.imp fun _ _ _ _ h => h.elim (fun h => p_zero h) (fun h => p_zero h)
  | n + 1 => (ok_items_here A T (by omega) (item_of A T n (items_ok A T n))).mono (by omega)
theorem design_ok (A : LA P K mg C CB f1 cc cda) (T : RdTx w K mg) (n : Nat) : FnOk P w K mg base (L2.CX P w) (5 * n + 16) T.design_here.f T.design_here.fd ["lexer"] (spDesign C CB n) :=
  ok_design_here A T (by omega) (ok_module_here A T (by omega) (items_ok A T n)) ((sizes_ok A T n).mono (by omega))
/-- the three reads at one level -/
theorem readD_ok (A : LA P K mg C CB f1 cc cda) (T : RdTx w K mg) (X : TxTx K mg) (n : Nat) : FnOk P w K mg base (L2.CX P w) (5 * n + 17) X.read_design.f X.read_design.fd ["text"] (spRead CB "DESIGN" n) := ok_read_design A T X (by omega) (design_ok A T n)
theorem readE_ok (A : LA P K mg C CB f1 cc cda) (T : RdTx w K mg) (X : TxTx K mg) (n : Nat) : FnOk P w K mg base (L2.CX P w) (5 * n + 17) X.read_expression.f X.read_expression.fd ["text"] (spRead CB "EWHOLE" n) := (ok_read_expression A T X (by omega) (expr_ok A T n).1).mono (by omega)
theorem readN_ok (A : LA P K mg C CB f1 cc cda) (T : RdTx w K mg) (X : TxTx K mg) (n : Nat) : FnOk P w K mg base (L2.CX P w) (5 * n + 17) X.read_number.f X.read_number.fd ["text"] (spRead CB "NUMWHOLE" n) := (ok_read_number A T X (by omega) (num_ok A T n)).mono (by omega)
end
end K04
end

section
set_option Elab.async false
set_option maxRecDepth 100000
set_option maxHeartbeats 4000000
set_option pp.maxSteps 2000
/-! K16: the law's own lexemes. -/
namespace K04
open PySem L2 PyProof.Rows
structure LwTx (K : PySem.W.Frag) (mg : Str → Option Value) where
  lw_source : Df K mg "_law_source" (topS 52) ["_law_script"]
  lw_pick : Df K mg "_law_pick" (topS 53) ["_law_source_here", "_law_many"]
  lw_of : Df K mg "_law_of" (topS 54) ["_law_source_here", "_law_some"]
  lw_keywords : Df K mg "_law_keywords" (topS 55) []
  lw_is_name : Df K mg "_law_is_name" (topS 56) ["_law_value"]
  lw_any_name : Df K mg "_law_any_name" (topS 57) ["_law_source_here"]
  lw_run_end : Df K mg "_law_run_end" (topS 58) ["_law_text", "_law_place_here", "_law_signs"]
  lw_lexeme : Df K mg "_law_lexeme" (topS 59) ["_law_text", "_law_place_here"]
  lw_spaced : Df K mg "_law_spaced" (topS 60) ["_law_source_here", "_law_signs"]
  lw_forms : Df K mg "_law_forms" (topS 61) []
  lw_fits : Df K mg "_law_fits" (topS 62) ["_law_lexeme_here", "_law_top"]
  lw_wrong_place : Df K mg "_law_wrong_place" (topS 63) ["_law_rules", "_law_text", "_law_form"]
  lw_drawn_signs : Df K mg "_law_drawn_signs" (topS 64) ["_law_source_here", "_law_rules", "_law_form"]
  lw_spoilt_signs : Df K mg "_law_spoilt_signs" (topS 65) ["_law_source_here", "_law_signs"]
  lw_place : Df K mg "_law_place" (topS 66) ["_law_call", "_law_text"]
  lw_hand_right : Df K mg "_law_hand_right" (topS 67) ["_law_rules"]
  m_len : mg "len" = none
  m_range : mg "range" = none
  m_isinstance : mg "isinstance" = none
  m_str : mg "str" = none
  m_max : mg "max" = none
  m_abs : mg "abs" = none
  m_int : mg "int" = none
  m_tuple : mg "tuple" = none
section
variable {P : Program} {w : World} {K : PySem.W.Frag} {mg : Str → Option Value} {base : Heap}
theorem sc_lw_run_end : FnScope ["_law_text", "_law_place_here", "_law_signs"] ["_law_text", "_law_place_here", "_law_signs"] (defScope (topS 58)) := ⟨rfl, rfl, rfl, by decide +kernel, rfl, by decide +kernel, by decide +kernel⟩
theorem ok_lw_run_end (Z : LwTx K mg) : FnOk P w K mg base CX0 1 Z.lw_run_end.f Z.lw_run_end.fd ["_law_text", "_law_place_here", "_law_signs"] spRunEnd := by
  refine Z.lw_run_end.F.ok sc_lw_run_end (fun vs H Q E h => ?_) (fun cdv A outer s H vs Q E hr h => ?_)
  · obtain ⟨t, p, z, rfl, _⟩ := h
    rfl
  obtain ⟨t, p, z, rfl, hl, hp, q⟩ := h
  have nd := sc_lw_run_end.nd
  refine ⟨_, (pss_cons (ps_while PassesOwn.never (PW.pt (pw_and (pt_cmpR op_lt (pv 1) (pe_callB call_len_str (by rfl) Z.m_len PySem.boot_len (pa_cons (pv 0) pa_nil)) (nomark _)) (pw_and1 (pt_cmpR op_in_sign (pe_ix ix_str (pv 0) (pv 1) (fun _ _ => rfl)) (pv 2) rfl)))) (pss_one (ps_set (i := 1) nd rfl (.inl rfl) (pe_op op_add (pv 1) pe_int))))
    (pss_one (ps_ret (pv 1)))), ?_⟩
  refine ⟨fun m σ H' => ∃ p' : Nat, σ = [some (.str (S t)), some (.int p'), some (.str z)] ∧ H' = H ∧ p' + m = t.length ∧ runEnd t p' z = runEnd t p z, ⟨t.length - p, p, rfl, rfl, by omega, rfl⟩, ?_⟩
  rintro m σ H' ⟨p', rfl, rfl, hm, he⟩
  refine ⟨_, rfl, _, rfl, _, rfl, S_fits hl, _, _, rfl, rfl, _, rfl, ?_⟩
  rw [S_len]
  refine ite2 (fun c => ?_) (fun c => ?_)
  · have c' : p' < t.length := by have := of_decide_eq_true c; omega
    have hc : t[p']? = some t[p'] := List.getElem?_eq_getElem c'
    refine ⟨_, rfl, _, rfl, _, _, t[p'], rfl, rfl, S_fits hl, atI_nat (by rw [S_codes]; exact hc), _, rfl, t[p'], _, rfl, rfl, _, rfl, ?_⟩
    refine ite2 (fun c => ?_) (fun c => ?_)
    · refine ⟨fun σ' H'' => ∃ m', m' < m ∧ ∃ p' : Nat, σ' = [some (.str (S t)), some (.int p'), some (.str z)] ∧ H'' = H' ∧ p' + m' = t.length ∧ runEnd t p' z = runEnd t p z, fun _ _ h => h, ?_⟩
      refine ⟨_, rfl, _, _, rfl, rfl, m - 1, by omega, p' + 1, rfl, rfl, by omega, ?_⟩
      rw [← he, runEnd_yes hc c]
    · refine ⟨_, rfl, ?_⟩
      rw [← runEnd_no hc (Bool.eq_false_iff.mpr c), he]
      exact q
  · have c' : t.length ≤ p' := by have := of_decide_eq_false (Bool.eq_false_iff.mpr c); omega
    refine iteF ⟨_, rfl, ?_⟩
    rw [← runEnd_end (z := z) c', he]
    exact q
theorem sc_lw_keywords : FnScope ["_law_some"] [] (defScope (topS 55)) := ⟨rfl, rfl, rfl, by decide +kernel, rfl, by decide +kernel, by decide +kernel⟩
def spKeys : Sp := fun vs H Q _ => vs = [] ∧ ∀ p, H p = none → Q (.ref p) (upd H p (.lst (KWS.map V.str)))
theorem ok_lw_keywords (Z : LwTx K mg) : FnOk P w K mg base CX0 1 Z.lw_keywords.f Z.lw_keywords.fd [] spKeys := by
  refine Z.lw_keywords.F.ok sc_lw_keywords (fun vs H Q E h => ?_) (fun cdv A outer s H vs Q E hr h => ?_)
  · obtain ⟨rfl, _⟩ := h
    rfl
  obtain ⟨rfl, q⟩ := h
  have nd := sc_lw_keywords.nd
  refine ⟨_, (pss_cons (ps_set (i := 0) nd rfl (.inl rfl) (pe_lst (pa_cons pe_str (pa_cons pe_str (pa_cons pe_str (pa_cons pe_str (pa_cons pe_str (pa_cons pe_str (pa_cons pe_str (pa_cons pe_str (pa_cons pe_str (pa_cons pe_str (pa_cons pe_str (pa_cons pe_str (pa_cons pe_str (pa_cons pe_str pa_nil))))))))))))))))
    (pss_one (ps_ret (pv 0)))), ?_⟩
  exact ⟨Nat.le_trans (show 14 ≤ 20 by decide) (by decide), fun p hp => ⟨_, rfl, q p hp⟩⟩
theorem sc_lw_is_name : FnScope ["_law_value", "_law_letters", "_law_sign"] ["_law_value"] (defScope (topS 56)) := ⟨rfl, rfl, rfl, by decide +kernel, rfl, by decide +kernel, by decide +kernel⟩
def nameB (v : List Nat) : Bool := match v with
  | [] => false
  | c :: r => decide ((c :: r).length < 17) && !decide (S (c :: r) ∈ KWS) && inS LET c
theorem nameB_cons (c : Nat) (r : List Nat) : nameB (c :: r) = (decide ((c :: r).length < 17) && !decide (S (c :: r) ∈ KWS) && inS LET c) := rfl
def spIsName : Sp := fun vs H Q _ => ∃ v : List Nat, vs = [.str (S v)] ∧ v.length ≤ 1000000 ∧ v.all (inS SGN) = true ∧ ∀ H', Same H H' → Q (.bl (nameB v)) H'
theorem boot_strT : bootBuiltins "str" = some (.type "str") := by decide +kernel
theorem ok_lw_is_name (Z : LwTx K mg) : FnOk P w K mg base CX0 2 Z.lw_is_name.f Z.lw_is_name.fd ["_law_value"] spIsName := by
  have G_lw_keywords := ok_lw_keywords (w := w) (P := P) (base := base) Z
  refine Z.lw_is_name.F.ok sc_lw_is_name (fun vs H Q E h => ?_) (fun cdv A outer s H vs Q E hr h => ?_)
  · obtain ⟨v, rfl, _⟩ := h
    rfl
  obtain ⟨v, rfl, hl, ha, q⟩ := h
  have nd := sc_lw_is_name.nd
  refine ⟨_, pss_cons (ps_if (PW.pt (pw_or (pt_not (pt_val (pe_callB call_isi (by rfl) Z.m_isinstance (by decide +kernel) (pa_cons (pv 0) (pa_cons (pe_bltn (v := .ty "str") rfl Z.m_str boot_strT rfl) pa_nil)))))
      (pw_or (pt_cmpR op_notin_rng (pe_callB call_len_str (by rfl) Z.m_len PySem.boot_len (pa_cons (pv 0) pa_nil)) (pe_callTy cr_range2 (by rfl) Z.m_range (by decide +kernel) (pa_cons pe_int (pa_cons pe_int pa_nil))) rfl)
        (pw_or1 (pt_cmpR op_in_seq (pv 0) (pe_call0 G_lw_keywords (hr.mono (by omega)) rfl Z.lw_keywords.g Z.lw_keywords.F.kp Z.lw_keywords.b .nil pass0) rfl))))) (pss_one (ps_ret pe_bl)) pss_nil)
    (pss_cons (ps_set (i := 1) nd rfl (.inr rfl) pe_str)
    (pss_one (ps_ret (pe_and (pe_cmpR op_in_sign (pe_ix ix_str (pv 0) pe_int (fun _ _ => rfl)) (pv 1) rfl) (pe_one (pe_cmpR (op_eqNil hr.units0)
      (pe_lc (own := [("_law_sign", 2)]) rfl nd (pi_str (pv 0)) (blkOk_by (own := [("_law_sign", 2)]) (N := ["_law_value", "_law_letters", "_law_sign"]) (sc := defScope (topS 56)) (by decide +kernel))
        (fun _ _ _ _ _ => pg_name (i := 2) nd rfl (Or.inl rfl)) (fun _ _ _ _ _ => pts_one (pt_cmpR op_notIn_sign (pv 2) (pe_op op_add_str (pv 1) pe_str) rfl)) (fun _ _ _ _ _ => pv 2)) (pe_lst pa_nil) (nomark _))))))), ?_⟩
  refine ⟨_, rfl, _, _, _, _, true, rfl, .ty "str", .base (.str _), kit_ty (by decide +kernel), true, rfl, iteF ?_⟩
  refine ⟨_, rfl, _, rfl, S_fits hl, _, _, rfl, fun p hp => ?_⟩
  refine ⟨_, p, 1, 17, rfl, rfl, upd_same, _, rfl, ?_⟩
  rw [S_len]
  have g1 : Same H (upd H p (.rng 1 17)) := same_up hp _
  cases v with
  | nil =>
    refine iteT (iteT ?_)
    exact q _ g1
  | cons c r =>
    by_cases c1 : (c :: r).length < 17
    · have d1 : (!decide ((1 : Int) ≤ (((c :: r).length : Nat) : Int) ∧ (((c :: r).length : Nat) : Int) < 17)) = false := by
        rw [decide_eq_true ⟨by simp only [List.length_cons]; omega, by omega⟩]
        rfl
      rw [d1]
      refine iteF ⟨_, rfl, rfl, fun p2 hp2 => ?_⟩
      refine ⟨p2, _, rfl, .inl (SqL.of upd_same), rfl, flat_strs _, _, rfl, ?_⟩
      have g2 := g1.trans (same_up hp2 (.lst (KWS.map V.str)))
      rw [inV_strs]
      by_cases c3 : S (c :: r) ∈ KWS
      · rw [show (if false = true then !decide (S (c :: r) ∈ KWS) else decide (S (c :: r) ∈ KWS)) = true from decide_eq_true c3]
        refine iteT ?_
        have z := q _ g2
        rw [nameB_cons, decide_eq_true c3, Bool.not_true, Bool.and_false, Bool.false_and] at z
        exact z
      rw [show (if false = true then !decide (S (c :: r) ∈ KWS) else decide (S (c :: r) ∈ KWS)) = false from decide_eq_false c3]
      refine iteF ?_
      have en : nameB (c :: r) = inS LET c := by rw [nameB_cons, decide_eq_true c1, decide_eq_false c3, Bool.not_false, Bool.and_true, Bool.true_and]
      refine ⟨_, rfl, _, _, c, rfl, rfl, S_fits hl, atI_nat (j := 0) (by rw [S_codes]; rfl), _, rfl, c, _, rfl, rfl, _, rfl, ?_⟩
      show if inS LET c = true then _ else _
      by_cases c2 : inS LET c = true
      · rw [if_pos c2]
        refine ⟨_, rfl, _, rfl, fun Dl hD => ?_⟩
        refine lc_it walk_str (fun _ H' => Same H H' ∧ H' Dl = some (.lst [])) ⟨g2.trans (same_up hD _), upd_same⟩ (fun _ _ _ _ => trivial) ?_ ?_
        · rintro i x H1 H2 hi ⟨h1, h2⟩ ⟨rfl, d, hd, rfl⟩
          have hd' : (c :: r)[i]? = some d := by
            rw [← S_codes (c :: r), Array.getElem?_toList]
            exact hd
          refine ⟨rfl, ⟨_, rfl, _, rfl, _, _, rfl, rfl, Nat.le_trans (show 26 + 11 ≤ 40 by decide) (by decide), d, _, rfl, rfl, _, rfl, ?_⟩⟩
          have e1 : (("abcdefghijklmnopqrstuvwxyz" : Str) ++ ("0123456789_" : Str)) = SGN := by decide +kernel
          show if (!decide (d ∈ (("abcdefghijklmnopqrstuvwxyz" : Str) ++ ("0123456789_" : Str)).cps.toList)) = true then _ else _
          have e2 : inS SGN d = true := List.all_eq_true.mp ha d (List.mem_of_getElem? hd')
          rw [e1, show decide (d ∈ SGN.cps.toList) = true from e2]
          exact iteF ⟨h1, h2⟩
        · rintro H1 ⟨h1, h2⟩
          refine ⟨fit3 (Nat.zero_le _), fun e he => ⟨Dl, e, [], rfl, rfl, SqL.of (same_up he _ _ _ h2), SqL.of upd_same, ?_⟩⟩
          have z := q _ (h1.trans (same_up he (.lst [])))
          rw [en, c2] at z
          exact z
      · rw [if_neg c2]
        have z := q _ g2
        rw [en, Bool.eq_false_iff.mpr c2] at z
        exact z
    · have d1 : (!decide ((1 : Int) ≤ (((c :: r).length : Nat) : Int) ∧ (((c :: r).length : Nat) : Int) < 17)) = true := by
        rw [decide_eq_false (by omega)]
        rfl
      rw [d1]
      refine iteT (iteT ?_)
      have z := q _ g1
      rw [nameB_cons, decide_eq_false c1, Bool.false_and, Bool.false_and] at z
      exact z
theorem sc_lw_lexeme : FnScope ["_law_text", "_law_place_here", "_law_figures", "_law_letters", "_law_end", "_law_word"] ["_law_text", "_law_place_here"] (defScope (topS 59)) := ⟨rfl, rfl, rfl, by decide +kernel, rfl, by decide +kernel, by decide +kernel⟩
def kdL : Kd → Str
  | .fin => "END"
  | k => kdS k
def LawLex (l : Lx) : List V := [.str (kdL l.kd), .str (S l.tx), .int l.pl]
def spLawLex : Sp := fun vs H Q _ => ∃ (t : List Nat) (p : Nat), vs = [.str (S t), .int p] ∧ t.length ≤ 1000000 ∧ p ≤ t.length ∧ ∀ q H', Same H H' → H q = none → H' q = some (.lst (LawLex (lexAt t p))) → Q (.ref q) H'
theorem str_nl1 : ("\n" : Str) = S [10] := by decide +kernel
theorem law_bl : (" \n" : Str) = BL := rfl
theorem law_run (t : List Nat) (n : Nat) : runEnd t n ((LET ++ FIG) ++ ("_" : Str)) = runEnd t n SGN := by
  rw [show ((LET ++ FIG) ++ ("_" : Str)) = SGN by decide +kernel]
theorem iteT_of {b : Bool} {A B : Prop} (e : b = true) (h : A) : if b = true then A else B := by
  rw [if_pos e]
  exact h
theorem iteF_of {b : Bool} {A B : Prop} (e : b = false) (h : B) : if b = true then A else B := by
  rw [if_neg (by rw [e]; decide)]
  exact h
theorem fit3' {n : Nat} (h : n ≤ 1000) : n ≤ sizeLine := Nat.le_trans h (by decide)
theorem kws_let : (KWS.all fun z => match z.cps.toList with | [] => false | c :: _ => inS LET c && decide (z.cps.toList.length ≤ 16)) = true := by decide +kernel
theorem kws_of {v : List Nat} (h : S v ∈ KWS) : ∃ c r, v = c :: r ∧ inS LET c = true ∧ v.length ≤ 16 := by
  have q := List.all_eq_true.mp kws_let _ h
  rw [S_codes] at q
  cases v with
  | nil => cases q
  | cons c r =>
    rw [Bool.and_eq_true, decide_eq_true_eq] at q
    exact ⟨c, r, rfl, q.1, q.2⟩
theorem lex_word {c : Nat} {r : List Nat} (h1 : ¬ S ((c :: r).take 2) ∈ PRS) (h2 : ¬ inS SGL c = true) (h3 : ¬ inS FIG c = true) :
    lexV (c :: r) = (if S ((c :: r).takeWhile (inS SGN)) ∈ KWS then (.keyword, (c :: r).takeWhile (inS SGN)) else if nameB ((c :: r).takeWhile (inS SGN)) = true then (.name, (c :: r).takeWhile (inS SGN)) else (.bad, [])) := by
  rw [lexV_cons, if_neg h1, if_neg h2, if_neg h3]
  have ht : (c :: r).takeWhile (inS SGN) = if inS SGN c = true then c :: r.takeWhile (inS SGN) else [] := List.takeWhile_cons
  by_cases hl : inS LET c = true
  · have e : runT c (c :: r) = (c :: r).takeWhile (inS SGN) := by unfold runT; rw [if_pos hl]
    rw [e, ht, if_pos (let_sgn hl)]
    by_cases hk : S (c :: r.takeWhile (inS SGN)) ∈ KWS
    · obtain ⟨_, _, _, _, h16⟩ := kws_of hk
      rw [if_pos hk, if_neg (fun h => h.elim (fun h => nomatch h) (fun h => by omega)), if_pos hk]
    · rw [if_neg hk, if_neg hk, nameB_cons, decide_eq_false hk, hl, Bool.not_false, Bool.and_true, Bool.and_true]
      by_cases h17 : (c :: r.takeWhile (inS SGN)).length < 17
      · rw [if_neg (fun h => h.elim (fun h => nomatch h) (fun h => by omega)), if_pos (decide_eq_true h17)]
      · rw [if_pos (.inr (by omega)), if_neg (fun h => h17 (of_decide_eq_true h))]
  · have e : runT c (c :: r) = [] := by unfold runT; rw [if_neg hl]
    rw [e, if_pos (.inl rfl), ht]
    have nk : ¬ S (if inS SGN c = true then c :: r.takeWhile (inS SGN) else []) ∈ KWS := fun h => by
      obtain ⟨c', r', e1, h1, _⟩ := kws_of h
      split at e1
      · rw [← (List.cons.inj e1).1] at h1
        exact hl h1
      · cases e1
    have nn : nameB (if inS SGN c = true then c :: r.takeWhile (inS SGN) else []) = false := by
      split
      · rw [nameB_cons, Bool.eq_false_iff.mpr hl, Bool.and_false]
      · rfl
    rw [if_neg nk, nn, if_neg (by decide)]
theorem ok_lw_lexeme (Z : LwTx K mg) : FnOk P w K mg base CX0 3 Z.lw_lexeme.f Z.lw_lexeme.fd ["_law_text", "_law_place_here"] spLawLex := by
  have G_lw_keywords := ok_lw_keywords (w := w) (P := P) (base := base) Z
  have G_lw_is_name := ok_lw_is_name (w := w) (P := P) (base := base) Z
  have G_lw_run_end := ok_lw_run_end (w := w) (P := P) (base := base) Z
  refine Z.lw_lexeme.F.ok sc_lw_lexeme (fun vs H Q E h => ?_) (fun cdv A outer s H vs Q E hr h => ?_)
  · obtain ⟨t, p, rfl, _⟩ := h
    rfl
  obtain ⟨t, p, rfl, hl, hp, q⟩ := h
  have nd := sc_lw_lexeme.nd
  refine ⟨_, (pss_cons (ps_asg (pe_tup (pa_cons pe_str (pa_cons pe_str pa_nil))) (pg_tup (by rfl) (pgs_cons (pg_name (i := 2) nd rfl (.inl rfl)) (pgs_cons (pg_name (i := 3) nd rfl (.inl rfl)) pgs_nil))))
    (pss_cons (ps_set (i := 1) nd rfl (.inl rfl) (pe_call G_lw_run_end (hr.mono (by omega)) rfl Z.lw_run_end.g Z.lw_run_end.F.kp Z.lw_run_end.b .nil pass0 (pa_cons (pv 0) (pa_cons (pv 1) (pa_cons pe_str pa_nil)))))
    (pss_cons (ps_while PassesOwn.never (pt_cmpR op_eq (pe_slice sl_str (pv 0) (po_some (pv 1)) (po_some (pe_op op_add (pv 1) pe_int))) pe_str (nomark _)) (pss_cons (ps_while PassesOwn.never (PW.pt (pw_and (pt_cmpR op_lt (pv 1) (pe_callB call_len_str (by rfl) Z.m_len PySem.boot_len (pa_cons (pv 0) pa_nil)) (nomark _)) (pw_and1 (pt_cmpR op_ne (pe_ix ix_str (pv 0) (pv 1) (fun _ _ => rfl)) pe_str (nomark _))))) (pss_one (ps_set (i := 1) nd rfl (.inl rfl) (pe_op op_add (pv 1) pe_int))))
    (pss_one (ps_set (i := 1) nd rfl (.inl rfl) (pe_call G_lw_run_end (hr.mono (by omega)) rfl Z.lw_run_end.g Z.lw_run_end.F.kp Z.lw_run_end.b .nil pass0 (pa_cons (pv 0) (pa_cons (pv 1) (pa_cons pe_str pa_nil))))))))
    (pss_cons (ps_if (pt_cmpR op_eq (pv 1) (pe_callB call_len_str (by rfl) Z.m_len PySem.boot_len (pa_cons (pv 0) pa_nil)) (nomark _)) (pss_one (ps_ret (pe_lst (pa_cons pe_str (pa_cons pe_str (pa_cons (pv 1) pa_nil)))))) pss_nil)
    (pss_cons (ps_if (pt_cmpR op_in_seq (pe_slice sl_str (pv 0) (po_some (pv 1)) (po_some (pe_op op_add (pv 1) pe_int))) (pe_lst (pa_cons pe_str (pa_cons pe_str (pa_cons pe_str (pa_cons pe_str pa_nil))))) rfl) (pss_one (ps_ret (pe_lst (pa_cons pe_str (pa_cons (pe_slice sl_str (pv 0) (po_some (pv 1)) (po_some (pe_op op_add (pv 1) pe_int))) (pa_cons (pv 1) pa_nil)))))) pss_nil)
    (pss_cons (ps_if (pt_cmpR op_in_sign (pe_ix ix_str (pv 0) (pv 1) (fun _ _ => rfl)) pe_str rfl) (pss_one (ps_ret (pe_lst (pa_cons pe_str (pa_cons (pe_ix ix_str (pv 0) (pv 1) (fun _ _ => rfl)) (pa_cons (pv 1) pa_nil)))))) pss_nil)
    (pss_cons (ps_if (pt_cmpR op_in_sign (pe_ix ix_str (pv 0) (pv 1) (fun _ _ => rfl)) (pv 2) rfl) (pss_cons (ps_set (i := 4) nd rfl (.inl rfl) (pe_ifExp (pt_cmpR op_eq (pe_ix ix_str (pv 0) (pv 1) (fun _ _ => rfl)) pe_str (nomark _)) (pe_op op_add (pv 1) pe_int) (pe_call G_lw_run_end (hr.mono (by omega)) rfl Z.lw_run_end.g Z.lw_run_end.F.kp Z.lw_run_end.b .nil pass0 (pa_cons (pv 0) (pa_cons (pv 1) (pa_cons (pv 2) pa_nil))))))
    (pss_one (ps_ret (pe_lst (pa_cons pe_str (pa_cons (pe_slice sl_str (pv 0) (po_some (pv 1)) (po_some (pv 4))) (pa_cons (pv 1) pa_nil))))))) pss_nil)
    (pss_cons (ps_set (i := 5) nd rfl (.inl rfl) (pe_slice sl_str (pv 0) (po_some (pv 1)) (po_some (pe_call G_lw_run_end (hr.mono (by omega)) rfl Z.lw_run_end.g Z.lw_run_end.F.kp Z.lw_run_end.b .nil pass0 (pa_cons (pv 0) (pa_cons (pv 1) (pa_cons (pe_op op_add_str (pe_op op_add_str (pv 3) (pv 2)) pe_str) pa_nil)))))))
    (pss_cons (ps_if (pt_cmpR op_in_seq (pv 5) (pe_call0 G_lw_keywords (hr.mono (by omega)) rfl Z.lw_keywords.g Z.lw_keywords.F.kp Z.lw_keywords.b .nil pass0) rfl) (pss_one (ps_ret (pe_lst (pa_cons pe_str (pa_cons (pv 5) (pa_cons (pv 1) pa_nil)))))) pss_nil)
    (pss_one (ps_ret (pe_ifExp (pt_val (pe_call G_lw_is_name (hr.mono (by omega)) rfl Z.lw_is_name.g Z.lw_is_name.F.kp Z.lw_is_name.b .nil pass0 (pa_cons (pv 5) pa_nil))) (pe_lst (pa_cons pe_str (pa_cons (pv 5) (pa_cons (pv 1) pa_nil)))) (pe_lst (pa_cons pe_str (pa_cons pe_str (pa_cons (pv 1) pa_nil)))))))))))))))), ?_⟩
  refine ⟨fit3 (by show 2 ≤ 10; decide), fun u hu => ⟨u, _, rfl, SqT.of upd_same, rfl, _, _, rfl, _, _, rfl, rfl, ?_⟩⟩
  have q := fun (q0 : Addr) (H' : Hp) (s : Same (upd H u (.tup [.str FIG, .str LET])) H') (f : (upd H u (.tup [.str FIG, .str LET])) q0 = none) => q q0 H' ((same_up hu _).trans s) (by
    cases e : H q0 with
    | none => rfl
    | some o => rw [same_up hu _ _ _ e] at f; cases f)
  obtain ⟨H1, hH1⟩ : ∃ H1, upd H u (.tup [.str FIG, .str LET]) = H1 := ⟨_, rfl⟩
  rw [hH1] at q
  refine ⟨_, rfl, _, rfl, t, p, BL, rfl, hl, hp, ?_⟩
  -- the gap
  refine ⟨fun m σ H' => ∃ p0 : Nat, σ = [some (.str (S t)), some (.int (runEnd t p0 BL)), some (.str FIG), some (.str LET), none, none] ∧ H' = H1 ∧ p0 ≤ t.length ∧ gapA t p0 = gapA t p ∧ runEnd t p0 BL + m = t.length,
    ⟨t.length - runEnd t p BL, p, rfl, hH1, hp, rfl, by have := runEnd_le BL hp; omega⟩, ?_⟩
  clear hH1
  rintro m σ H' ⟨p0, rfl, rfl, h0, hg, hm⟩
  refine ⟨_, rfl, _, rfl, _, rfl, _, rfl, _, _, rfl, rfl, _, rfl, ?_⟩
  refine ⟨_, rfl, S_fits hl, rfl, _, rfl, ?_⟩
  have e2 : ((runEnd t p0 BL : Nat) : Int) + 2 = ((runEnd t p0 BL + 2 : Nat) : Int) := rfl
  rw [e2, cutS_nat, show runEnd t p0 BL + 2 - runEnd t p0 BL = 2 by omega]
  refine ite2 (fun c => ?_) (fun c => ?_)
  · have c1 : (t.drop (runEnd t p0 BL)).take 2 = [47, 47] := by
      have c2 := of_decide_eq_true c
      have c3 : S ((t.drop (runEnd t p0 BL)).take 2) = ("//" : Str) := V.str.inj c2
      exact S_inj (c3.trans S_slash.symm)
    have c4 := runEnd_le BL h0
    refine ⟨fun σ' H'' => ∃ m', m' < m ∧ ∃ p0 : Nat, σ' = [some (.str (S t)), some (.int (runEnd t p0 BL)), some (.str FIG), some (.str LET), none, none] ∧ H'' = H' ∧ p0 ≤ t.length ∧ gapA t p0 = gapA t p ∧ runEnd t p0 BL + m' = t.length, fun _ _ h => h, ?_⟩
    -- to the line's end, sign by sign
    refine ⟨fun m1 σ H1 => ∃ p1 : Nat, σ = [some (.str (S t)), some (.int p1), some (.str FIG), some (.str LET), none, none] ∧ H1 = H' ∧ p1 + m1 = t.length ∧ (t.drop p1).dropWhile (fun d => decide (d ≠ 10)) = (t.drop (runEnd t p0 BL)).dropWhile (fun d => decide (d ≠ 10)),
      ⟨t.length - runEnd t p0 BL, runEnd t p0 BL, rfl, rfl, by omega, rfl⟩, ?_⟩
    rintro m1 σ H1 ⟨p1, rfl, rfl, hm1, hd1⟩
    refine ⟨_, rfl, _, rfl, _, rfl, S_fits hl, _, _, rfl, rfl, _, rfl, ?_⟩
    rw [S_len]
    have go : t.drop p1 = (t.drop (runEnd t p0 BL)).dropWhile (fun d => decide (d ≠ 10)) → p1 ≤ t.length →
        ∃ m', m' < m ∧ ∃ q0 : Nat, q0 ≤ t.length ∧ gapA t q0 = gapA t p ∧ runEnd t q0 BL + m' = t.length ∧ runEnd t p1 BL = runEnd t q0 BL := fun e hq => by
      have l1 := slash_lt c1 e hq
      have l2 := runEnd_ge t p1 BL
      have l3 := runEnd_le BL hq
      refine ⟨t.length - runEnd t p1 BL, by omega, p1, hq, ?_, by omega, rfl⟩
      rw [← gapA_more c1 e, hg]
    have fin : t.drop p1 = (t.drop (runEnd t p0 BL)).dropWhile (fun d => decide (d ≠ 10)) → p1 ≤ t.length → ∃ m', m' < m ∧ ∃ q0 : Nat, ([some (.str (S t)), some (.int p1), some (.str FIG), some (.str LET), none, none] : L2.St).set 1 (some (.int (runEnd t p1 BL : Nat))) = [some (.str (S t)), some (.int (runEnd t q0 BL)), some (.str FIG), some (.str LET), none, none] ∧ H1 = H1 ∧ q0 ≤ t.length ∧ gapA t q0 = gapA t p ∧ runEnd t q0 BL + m' = t.length := fun e hq => by
      obtain ⟨m', g1, q0, g2, g3, g4, g5⟩ := go e hq
      refine ⟨m', g1, q0, ?_, rfl, g2, g3, g4⟩
      rw [g5]
      rfl
    by_cases hlt : p1 < t.length
    · rw [decide_eq_true (show (p1 : Int) < (t.length : Int) by omega)]
      refine iteT ?_
      have hc : t[p1]? = some t[p1] := List.getElem?_eq_getElem hlt
      have hd := List.drop_eq_getElem_cons hlt
      refine ⟨_, rfl, _, rfl, _, _, t[p1], rfl, rfl, S_fits hl, atI_nat (by rw [S_codes]; exact hc), rfl, _, rfl, ?_⟩
      have ec : decide (V.str ⟨#[t[p1]]⟩ = V.str ("\n" : Str)) = decide (t[p1] = 10) := by
        rw [str_nl1]
        exact V_S (a := [t[p1]]) (b := [10]) |>.trans (decide_eq_decide.mpr ⟨fun h => (List.cons.inj h).1, fun h => by rw [h]⟩)
      rw [ec]
      by_cases hn : t[p1] = 10
      · rw [decide_eq_true hn]
        refine iteF ?_
        refine ⟨_, rfl, _, rfl, t, p1, BL, rfl, hl, Nat.le_of_lt hlt, fin ?_ (Nat.le_of_lt hlt)⟩
        rw [← hd1, hd, List.dropWhile_cons, if_neg (by rw [decide_eq_true_eq]; exact fun h => h hn)]
      · rw [decide_eq_false hn]
        refine iteT ⟨fun σ' H'' => ∃ m', m' < m1 ∧ ∃ p1 : Nat, σ' = [some (.str (S t)), some (.int p1), some (.str FIG), some (.str LET), none, none] ∧ H'' = H1 ∧ p1 + m' = t.length ∧ (t.drop p1).dropWhile (fun d => decide (d ≠ 10)) = (t.drop (runEnd t p0 BL)).dropWhile (fun d => decide (d ≠ 10)), fun _ _ h => h, ?_⟩
        refine ⟨_, rfl, _, _, rfl, rfl, m1 - 1, by omega, p1 + 1, rfl, rfl, by omega, ?_⟩
        rw [← hd1, hd, List.dropWhile_cons, if_pos (decide_eq_true hn)]
    · rw [decide_eq_false (show ¬ (p1 : Int) < (t.length : Int) by omega)]
      refine iteF ?_
      refine iteF ?_
      have h1 : p1 ≤ t.length := by omega
      refine ⟨_, rfl, _, rfl, t, p1, BL, rfl, hl, h1, fin ?_ h1⟩
      rw [← hd1, List.drop_eq_nil_of_le (by omega)]
      rfl
  have c1 : (t.drop (runEnd t p0 BL)).take 2 ≠ [47, 47] := fun z => c (decide_eq_true (by rw [z, S_slash]))
  have hv : t.drop (runEnd t p0 BL) = gapA t p := by rw [← gapA_end c1, hg]
  have hn := runEnd_le BL h0
  generalize runEnd t p0 BL = n at hv hn e2 ⊢
  have e1 : ((n : Nat) : Int) + 1 = ((n + 1 : Nat) : Int) := rfl
  clear c c1 hg h0
  have hpl : t.length - (gapA t p).length = n := by rw [← hv, List.length_drop]; omega
  have done : ∀ (k : Kd) (tx : List Nat), lexV (t.drop n) = (k, tx) → ∀ H2, Same H' H2 → ∀ pp, H2 pp = none → Q (.ref pp) (upd H2 pp (.lst [.str (kdL k), .str (S tx), .int n])) := fun k tx e H2 sm pp hpp => by
    refine q pp _ (sm.trans (same_up hpp _)) ?_ ?_
    · cases ee : H' pp with
      | none => rfl
      | some o => rw [sm _ _ ee] at hpp; cases hpp
    · rw [upd_same]
      have z : lexAt t p = ⟨k, tx, n⟩ := by
        unfold lexAt
        rw [← hv, e, hv, hpl]
      rw [z]
      rfl
  refine ⟨_, rfl, _, rfl, _, rfl, S_fits hl, rfl, _, rfl, ?_⟩
  rw [S_len]
  by_cases c0 : n = t.length
  · subst c0
    rw [decide_eq_true rfl]
    refine iteT ⟨_, rfl, fit3 (by show 3 ≤ 10; decide), fun pp hpp => ?_⟩
    exact done .fin [] (by rw [List.drop_length]; rfl) H' (Same.refl _) pp hpp
  rw [decide_eq_false (fun z => c0 (by have := V.int.inj z; omega))]
  have hlt : n < t.length := by omega
  have hc : t[n]? = some t[n] := List.getElem?_eq_getElem hlt
  have hd := List.drop_eq_getElem_cons hlt
  generalize t[n] = c at hc hd
  refine iteF ?_
  -- the pairs
  refine ⟨_, rfl, _, rfl, _, rfl, _, rfl, _, _, rfl, rfl, _, rfl, _, rfl, S_fits hl, fit3 (by show 4 ≤ 10; decide), fun u2 hu2 => ⟨u2, PRS.map V.str, rfl, .inl (SqL.of upd_same), rfl, flat_strs _, _, rfl, ?_⟩⟩
  rw [e2, cutS_nat, show n + 2 - n = 2 by omega, inV_strs]
  have d2 : (t.drop n).take 2 = (c :: t.drop (n + 1)).take 2 := by rw [hd]
  have s2 := same_up hu2 (.lst (PRS.map V.str))
  have s2' : Same H' (upd H' u2 (.lst [.str "<<", .str ">>", .str "==", .str "<-"])) := same_up hu2 _
  by_cases c1 : S ((c :: t.drop (n + 1)).take 2) ∈ PRS
  · rw [d2, show (if false = true then !decide (S ((c :: t.drop (n + 1)).take 2) ∈ PRS) else decide (S ((c :: t.drop (n + 1)).take 2) ∈ PRS)) = true from decide_eq_true c1]
    refine iteT ?_
    refine ⟨_, rfl, _, rfl, _, rfl, _, rfl, _, _, rfl, rfl, _, rfl, _, rfl, S_fits hl, _, rfl, fit3 (by show 3 ≤ 10; decide), fun pp hpp => ?_⟩
    rw [e2, cutS_nat, show n + 2 - n = 2 by omega, d2]
    exact done .sign _ (by rw [hd]; rw [lexV_cons, if_pos c1]) _ s2' pp hpp
  rw [d2, show (if false = true then !decide (S ((c :: t.drop (n + 1)).take 2) ∈ PRS) else decide (S ((c :: t.drop (n + 1)).take 2) ∈ PRS)) = false from decide_eq_false c1]
  refine iteF ?_
  have hat : atI (S t).cps.toList (n : Int) = some c := atI_nat (by rw [S_codes]; exact hc)
  -- the single signs
  refine ⟨_, rfl, _, rfl, _, _, c, rfl, rfl, S_fits hl, hat, c, _, rfl, rfl, _, rfl, ?_⟩
  by_cases c2 : inS SGL c = true
  · refine iteT_of (show decide (c ∈ SGL.cps.toList) = true from c2) ?_
    refine ⟨_, rfl, _, rfl, _, _, c, rfl, rfl, S_fits hl, hat, _, rfl, fit3 (by show 3 ≤ 10; decide), fun pp hpp => ?_⟩
    exact done .sign [c] (by rw [hd]; rw [lexV_cons, if_neg c1, if_pos c2]) _ s2' pp hpp
  refine iteF_of (show decide (c ∈ SGL.cps.toList) = false from Bool.eq_false_iff.mpr c2) ?_
  -- the figures
  refine ⟨_, rfl, _, rfl, _, _, c, rfl, rfl, S_fits hl, hat, _, rfl, c, _, rfl, rfl, _, rfl, ?_⟩
  by_cases c3 : inS FIG c = true
  · refine iteT_of (show decide (c ∈ FIG.cps.toList) = true from c3) ?_
    refine ⟨_, rfl, _, rfl, _, _, c, rfl, rfl, S_fits hl, hat, rfl, _, rfl, ?_⟩
    have ec : decide (V.str ⟨#[c]⟩ = V.str ("0" : Str)) = decide (c = 48) := by
      rw [str_0]
      exact V_S (a := [c]) (b := [48]) |>.trans (decide_eq_decide.mpr ⟨fun h => (List.cons.inj h).1, fun h => by rw [h]⟩)
    rw [ec]
    by_cases c4 : c = 48
    · rw [decide_eq_true c4]
      refine iteT ⟨_, rfl, _, _, rfl, rfl, _, rfl, _, rfl, _, rfl, _, rfl, _, rfl, _, rfl, S_fits hl, _, rfl, fit3 (by show 3 ≤ 10; decide), fun pp hpp => ?_⟩
      rw [e1, cutS_nat, show n + 1 - n = 1 by omega]
      exact done .numeral _ (by rw [hd]; rw [lexV_cons, if_neg c1, if_neg c2, if_pos c3]; unfold numT; rw [if_pos c4]; rfl) _ s2' pp hpp
    · rw [decide_eq_false c4]
      refine iteF ⟨_, rfl, _, rfl, _, rfl, t, n, FIG, rfl, hl, hn, _, rfl, _, rfl, _, rfl, _, rfl, _, rfl, _, rfl, S_fits hl, _, rfl, fit3 (by show 3 ≤ 10; decide), fun pp hpp => ?_⟩
      rw [cutS_nat, take_run]
      exact done .numeral _ (by rw [hd]; rw [lexV_cons, if_neg c1, if_neg c2, if_pos c3]; unfold numT; rw [if_neg c4]) _ s2' pp hpp
  refine iteF_of (show decide (c ∈ FIG.cps.toList) = false from Bool.eq_false_iff.mpr c3) ?_
  -- words
  refine ⟨_, rfl, _, rfl, _, rfl, _, rfl, _, rfl, _, rfl, _, rfl, _, _, rfl, rfl, fit3' (show 36 ≤ 1000 by decide), _, _, rfl, rfl, fit3' (show 37 ≤ 1000 by decide), t, n, _, rfl, hl, hn, _, rfl, _, rfl, S_fits hl, ?_⟩
  rw [cutS_nat, law_run t n, take_run, hd]
  have lw := lex_word c1 c2 c3
  generalize hv : (c :: t.drop (n + 1)).takeWhile (inS SGN) = v at lw
  have hv1 : v.all (inS SGN) = true := by rw [← hv]; exact run_all _ _
  have hv2 : v.length ≤ 1000000 := by
    have q1 := takeWhile_len (inS SGN) (c :: t.drop (n + 1))
    rw [hv, ← hd, List.length_drop] at q1
    omega
  rw [← hd] at lw
  refine ⟨_, rfl, rfl, fun u3 hu3 => ⟨u3, _, rfl, .inl (SqL.of upd_same), rfl, flat_strs _, _, rfl, ?_⟩⟩
  have s3 := s2'.trans (same_up hu3 (.lst (KWS.map V.str)))
  rw [inV_strs]
  by_cases c5 : S v ∈ KWS
  · rw [if_pos c5] at lw
    refine iteT_of (b := decide (S v ∈ KWS)) (decide_eq_true c5) ⟨_, rfl, _, rfl, fit3 (by show 3 ≤ 10; decide), fun pp hpp => done _ _ lw _ s3 pp hpp⟩
  rw [if_neg c5] at lw
  refine iteF_of (b := decide (S v ∈ KWS)) (decide_eq_false c5) ?_
  refine ⟨_, rfl, v, rfl, hv2, hv1, fun H4 sm4 => ⟨_, rfl, ?_⟩⟩
  have s4 := s3.trans sm4
  cases c6 : nameB v with
  | true =>
    rw [if_pos c6] at lw
    exact iteT ⟨_, rfl, _, rfl, fit3 (by show 3 ≤ 10; decide), fun pp hpp => done _ _ lw _ s4 pp hpp⟩
  | false =>
    rw [c6, if_neg (by decide)] at lw
    exact iteF ⟨_, rfl, fit3 (by show 3 ≤ 10; decide), fun pp hpp => done .bad [] lw _ s4 pp hpp⟩
end
end K04
end

section
set_option Elab.async false
set_option maxRecDepth 100000
set_option maxHeartbeats 4000000
set_option pp.maxSteps 2000
/-! K17: the forms as they stand in the heap, and the def that makes them. -/
namespace K04
open PySem L2 PyProof.Rows
/-! ### rows in the heap -/
def StrsAt (G : Addr → Prop) (H : Hp) (v : V) (zs : List Str) : Prop := ∃ p, v = .ref p ∧ H p = some (.lst (zs.map V.str)) ∧ G p
def HeadAt (G : Addr → Prop) (H : Hp) (v : V) (h : Option (List Str)) : Prop := match h with
  | none => v = .non
  | some zs => StrsAt G H v zs
def RowAt (G : Addr → Prop) (H : Hp) (v : V) (r : Row) : Prop := ∃ p a b, v = .ref p ∧ H p = some (.lst [a, b]) ∧ G p ∧ HeadAt G H a r.1 ∧ StrsAt G H b r.2
def RowsAt (G : Addr → Prop) (H : Hp) (v : V) (rows : List Row) : Prop := ∃ p vs, v = .ref p ∧ H p = some (.lst vs) ∧ G p ∧ Paired (RowAt G H) vs rows
/-- lists stay, where G holds -/
def Lk (G : Addr → Prop) (H H' : Hp) : Prop := ∀ b xs, G b → H b = some (.lst xs) → H' b = some (.lst xs)
theorem paired_imp {α β : Type} {F F' : α → β → Prop} (k : ∀ a b, F a b → F' a b) : ∀ {l : List α} {m : List β}, Paired F l m → Paired F' l m
  | _, _, .nil => .nil
  | _, _, .cons h t => .cons (k _ _ h) (paired_imp k t)
theorem paired_app {α β : Type} {F : α → β → Prop} : ∀ {l l' : List α} {m m' : List β}, Paired F l m → Paired F l' m' → Paired F (l ++ l') (m ++ m')
  | _, _, _, _, .nil, h => h
  | _, _, _, _, .cons h t, h' => .cons h (paired_app t h')
section
variable {G G' : Addr → Prop} {H H' : Hp} {v : V}
theorem StrsAt.lk {zs : List Str} (h : StrsAt G H v zs) (k : Lk G H H') (g : ∀ b, G b → G' b) : StrsAt G' H' v zs := by
  obtain ⟨p, rfl, e, hp⟩ := h
  exact ⟨p, rfl, k _ _ hp e, g _ hp⟩
theorem HeadAt.lk {h : Option (List Str)} (x : HeadAt G H v h) (k : Lk G H H') (g : ∀ b, G b → G' b) : HeadAt G' H' v h := by
  cases h with
  | none => exact x
  | some zs => exact StrsAt.lk x k g
theorem RowAt.lk {r : Row} (h : RowAt G H v r) (k : Lk G H H') (g : ∀ b, G b → G' b) : RowAt G' H' v r := by
  obtain ⟨p, a, b, rfl, e, hp, ha, hb⟩ := h
  exact ⟨p, a, b, rfl, k _ _ hp e, g _ hp, ha.lk k g, hb.lk k g⟩
theorem RowsAt.lk {rows : List Row} (h : RowsAt G H v rows) (k : Lk G H H') (g : ∀ b, G b → G' b) : RowsAt G' H' v rows := by
  obtain ⟨p, vs, rfl, e, hp, r⟩ := h
  exact ⟨p, vs, rfl, k _ _ hp e, g _ hp, paired_imp (fun a b x => RowAt.lk x k g) r⟩
theorem Lk.same (s : Same H H') : Lk G H H' := fun b xs _ e => s _ _ e
end
/-! ### what displays give -/
def strTA : List Str → TA
  | [] => tNil
  | z :: zs => tCons (tC (.str z)) (strTA zs)
theorem strTA_of : ∀ (zs : List Str) {σ : L2.St} {H : Hp} {Q : List V → Hp → Prop}, Q (zs.map V.str) H → strTA zs σ H Q
  | [], _, _, _, h => h
  | _ :: zs, _, _, _, h => strTA_of zs h
def RdS (G : Addr → Prop) (σ : L2.St) (H : Hp) (t : TE) (zs : List Str) : Prop := ∀ H1, Same H H1 → ∀ Q : VK, (∀ v H2, Same H1 H2 → StrsAt G H2 v zs → Q v H2) → t σ H1 Q
def RdH (G : Addr → Prop) (σ : L2.St) (H : Hp) (t : TE) (h : Option (List Str)) : Prop := ∀ H1, Same H H1 → ∀ Q : VK, (∀ v H2, Same H1 H2 → HeadAt G H2 v h → Q v H2) → t σ H1 Q
def RdRow (G : Addr → Prop) (σ : L2.St) (H : Hp) (t : TE) (r : Row) : Prop := ∀ H1, Same H H1 → ∀ Q : VK, (∀ v H2, Same H1 H2 → RowAt G H2 v r → Q v H2) → t σ H1 Q
def RdRows (G : Addr → Prop) (σ : L2.St) (H : Hp) (t : TA) (rows : List Row) : Prop := ∀ H1, Same H H1 → ∀ Q : List V → Hp → Prop, (∀ vs H2, Same H1 H2 → Paired (RowAt G H2) vs rows → Q vs H2) → t σ H1 Q
def Fr (G : Addr → Prop) (H : Hp) : Prop := ∀ b, H b = none → G b
theorem sm_none {H H' : Hp} {b : Addr} (s : Same H H') (h : H' b = none) : H b = none := by
  cases e : H b with
  | none => rfl
  | some o => rw [s _ _ e] at h; cases h
section
variable {G : Addr → Prop} {σ : L2.St} {H : Hp} {t th tb : TE}
theorem rdS_lit {zs : List Str} {ta : TA} (g : Fr G H) (hz : zs.length ≤ 1000) (e : ta = strTA zs := by rfl) : RdS G σ H (tLst ta) zs := fun H1 s Q k => by
  subst e
  exact strTA_of zs ⟨by rw [List.length_map]; exact fit3' hz, fun p hp => k _ _ (same_up hp _) ⟨p, rfl, upd_same, g _ (sm_none s hp)⟩⟩
theorem rdS_var {zs : List Str} {i : Nat} {v : V} (hi : σ[i]? = some (some v)) (h : StrsAt G H v zs) : RdS G σ H (tVar i) zs := fun H1 s Q k => ⟨v, hi, k v H1 (Same.refl _) (h.lk (Lk.same s) fun _ h => h)⟩
theorem rdH_no : RdH G σ H (tC .non) none := fun _ _ _ k => k _ _ (Same.refl _) rfl
theorem rdH_so {zs : List Str} (h : RdS G σ H t zs) : RdH G σ H t (some zs) := h
theorem rdRow {h : Option (List Str)} {b : List Str} (g : Fr G H) (rh : RdH G σ H th h) (rb : RdS G σ H tb b) : RdRow G σ H (tLst (tCons th (tCons tb tNil))) (h, b) := fun H1 s Q k =>
  rh H1 s _ fun v1 H2 s2 h1 => rb H2 (s.trans s2) _ fun v2 H3 s3 h2 => ⟨fit3' (show 2 ≤ 1000 by decide), fun p hp =>
    k _ _ (s2.trans (s3.trans (same_up hp _))) ⟨p, v1, v2, rfl, upd_same, g _ (sm_none s (sm_none s2 (sm_none s3 hp))), h1.lk (Lk.same (s3.trans (same_up hp _))) fun _ h => h, h2.lk (Lk.same (same_up hp _)) fun _ h => h⟩⟩
theorem rdR_nil : RdRows G σ H tNil [] := fun _ _ _ k => k _ _ (Same.refl _) .nil
theorem rdR_cons {ta : TA} {r : Row} {rows : List Row} (h : RdRow G σ H t r) (hr : RdRows G σ H ta rows) : RdRows G σ H (tCons t ta) (r :: rows) := fun H1 s Q k =>
  h H1 s _ fun v H2 s2 h2 => hr H2 (s.trans s2) _ fun vs H3 s3 h3 => k _ _ (s2.trans s3) (.cons (h2.lk (Lk.same s3) fun _ h => h) h3)
end
theorem sq {a u : TS} {D : Ends} {σ : L2.St} {H : Hp} (h : a { D with nx := fun σ H => u D σ H } σ H) : tSeq a u D σ H := h
theorem f_lit {i : Nat} {ta : TA} {zs : List Str} {D : Ends} {σ : L2.St} {H : Hp} (hl : zs.length ≤ 1000) (k : ∀ pm, H pm = none → D.nx (σ.set i (some (.ref pm))) (upd H pm (.lst (zs.map V.str)))) (e : ta = strTA zs := by rfl) : tAsg (tLst ta) (gName i) D σ H := by
  subst e
  exact strTA_of zs ⟨by rw [List.length_map]; exact fit3' hl, fun p hp => k p hp⟩
/-! ### the dict of forms as it grows -/
def RO (G : Addr → Prop) (H : Hp) : Option V → Option (List Row) → Prop
  | some v, some rows => RowsAt G H v rows
  | none, none => True
  | _, _ => False
theorem RO.lk {G G' : Addr → Prop} {H H' : Hp} {o : Option V} {r : Option (List Row)} (h : RO G H o r) (k : Lk G H H') (g : ∀ b, G b → G' b) : RO G' H' o r := by
  cases o with
  | none => cases r with
    | none => exact True.intro
    | some r => exact h
  | some v => cases r with
    | none => exact h
    | some r => exact RowsAt.lk h k g
abbrev Nw (H0 : Hp) : Addr → Prop := fun b => H0 b = none
structure FAt (H0 H : Hp) (d : Addr) (acc : List (Str × List Row)) (n : Nat) : Prop where
  sm : Same H0 H
  fd : H0 d = none
  ex : ∃ kvs, H d = some (.dK kvs) ∧ kvs.length ≤ n ∧ ∀ z, RO (Nw H0) H (valV kvs (.inr z)) (acc.lookup z)
structure FL (H0 H : Hp) (d : Addr) (acc : List (Str × List Row)) (n : Nat) (X : Str) (p : Addr) (vs : List V) (rows : List Row) : Prop where
  sm : Same H0 H
  fd : H0 d = none
  hp : H p = some (.lst vs)
  fp : H0 p = none
  ex : ∃ kvs, H d = some (.dK kvs) ∧ kvs.length ≤ n ∧ valV kvs (.inr X) = some (.ref p) ∧ ∀ z, z ≠ X → ∀ o, RO (Nw H0) (upd H p o) (valV kvs (.inr z)) (acc.lookup z)
  own : ∀ o, Paired (RowAt (Nw H0) (upd H p o)) vs rows
theorem upd_id {H : Hp} {p : Addr} {o : HO} (h : H p = some o) : upd H p o = H := by
  funext b
  by_cases e : b = p
  · rw [e, upd_same, h]
  · exact upd_ne e
theorem FL.fat {H0 H : Hp} {d : Addr} {acc : List (Str × List Row)} {n : Nat} {X : Str} {p : Addr} {vs : List V} {rows : List Row} (f : FL H0 H d acc n X p vs rows) : FAt H0 H d ((X, rows) :: acc) n := by
  obtain ⟨kvs, h1, h2, h3, h4⟩ := f.ex
  refine ⟨f.sm, f.fd, kvs, h1, h2, fun z => ?_⟩
  rw [List.lookup_cons]
  by_cases e : z = X
  · subst e
    rw [beq_self_eq_true, h3]
    have q := f.own (.lst vs)
    rw [upd_id f.hp] at q
    exact ⟨p, vs, rfl, f.hp, f.fp, q⟩
  · rw [beq_eq_false_iff_ne.mpr e]
    have q := h4 z e (.lst vs)
    rw [upd_id f.hp] at q
    exact q
theorem Fr.of {H0 H : Hp} (s : Same H0 H) : Fr (Nw H0) H := fun _ h => sm_none s h
theorem lk_dict {G : Addr → Prop} {H : Hp} {d : Addr} {kvs : List (Key × V)} {o : HO} (h : H d = some (.dK kvs)) : Lk G H (upd H d o) := fun b xs _ e => by
  rw [upd_ne (fun z => by rw [z, h] at e; cases e)]
  exact e
theorem lk_new {G : Addr → Prop} {H : Hp} {p : Addr} {o : HO} (h : H p = none) : Lk G H (upd H p o) := Lk.same (same_up h o)
theorem upd_swap {H : Hp} {a b : Addr} {x y : HO} (h : a ≠ b) : upd (upd H a x) b y = upd (upd H b y) a x := by
  funext c
  by_cases e : c = a
  · subst e
    rw [upd_ne h, upd_same, upd_same]
  · by_cases e2 : c = b
    · subst e2
      rw [upd_same, upd_ne e, upd_same]
    · rw [upd_ne e2, upd_ne e, upd_ne e, upd_ne e2]
theorem upd_twice {H : Hp} {a : Addr} {x y : HO} : upd (upd H a x) a y = upd H a y := by
  funext c
  by_cases e : c = a
  · subst e
    rw [upd_same, upd_same]
  · rw [upd_ne e, upd_ne e, upd_ne e]
theorem key_ne {z X : Str} (h : z ≠ X) : ¬ ((.inr z : Key) = .inr X) := fun e => h (Sum.inr.inj e)
section
variable {H0 H : Hp} {d : Addr} {acc : List (Str × List Row)} {n : Nat} {X : Str} {σ : L2.St} {D : Ends}
/-- rules[X] = rows, for a new X or an old one -/
theorem f_put {ta : TA} {rows : List Row} (F : FAt H0 H d acc n) (hs : σ[0]? = some (some (.ref d))) (hn : n < 1000) (hl : rows.length ≤ 1000) (R : RdRows (Nw H0) σ H ta rows)
    (k : ∀ H' p vs, Same H0 H' → (∀ b zs, H b = some (.lst zs) → H' b = some (.lst zs)) → FL H0 H' d acc (n + 1) X p vs rows → D.nx σ H') : sDPut (tVar 0) (tC (.str X)) (tLst ta) D σ H := by
  obtain ⟨kvs, h1, h2, h3⟩ := F.ex
  refine R H (Same.refl _) _ fun vs H2 s2 hv => ⟨by rw [hv.length]; exact fit3' hl, fun p hp => ⟨_, hs, d, _, rfl, DPut.k (k := .inr X) (same_up hp _ _ _ (s2 _ _ h1)) (Nat.lt_of_le_of_lt h2 (Nat.lt_of_lt_of_le hn (fit3' (Nat.le_refl _)))), ?_⟩⟩
  have hd2 : H2 d = some (.dK kvs) := s2 _ _ h1
  have pd : p ≠ d := fun e => by rw [e, hd2] at hp; cases hp
  have sm2 : Same H0 H2 := F.sm.trans s2
  have fp := sm_none sm2 hp
  have sm3 : Same H0 (upd (upd H2 p (.lst vs)) d (.dK (putK kvs (.inr X) (.ref p)))) := fun b o e => by
    rw [upd_ne (fun z => by rw [z, F.fd] at e; cases e), upd_ne (fun z => by rw [z, fp] at e; cases e)]
    exact sm2 _ _ e
  refine k _ p vs sm3 (fun b zs e => ?_) ⟨sm3, F.fd, ?_, fp, ⟨_, upd_same, ?_, ?_, fun z hz o => ?_⟩, fun o => ?_⟩
  · rw [upd_ne (fun z => by rw [z, h1] at e; cases e)]
    exact same_up hp _ _ _ (s2 _ _ e)
  · rw [upd_ne pd, upd_same]
  · exact Nat.le_trans (length_putK _ _ _) (Nat.succ_le_succ h2)
  · rw [valV_put, if_pos rfl]
  · rw [valV_put, if_neg (key_ne hz), upd_swap (Ne.symm pd), upd_twice]
    refine (h3 z).lk (fun b xs _ e => ?_) fun _ h => h
    rw [upd_ne (fun z => by rw [z, h1] at e; cases e), upd_ne (fun z => by rw [z] at e; rw [s2 _ _ e] at hp; cases hp)]
    exact s2 _ _ e
  · refine paired_imp (fun a b x => RowAt.lk x (fun b xs _ e => ?_) fun _ h => h) hv
    rw [upd_swap (Ne.symm pd), upd_twice, upd_ne (fun z => by rw [z, hd2] at e; cases e), upd_ne (fun z => by rw [z] at e; rw [e] at hp; cases hp)]
    exact e
/-- rules[X].append(row) -/
theorem f_app {K : PySem.W.Frag} {t : TE} {p : Addr} {vs : List V} {rows : List Row} {r : Row} (F : FL H0 H d acc n X p vs rows) (hs : σ[0]? = some (some (.ref d))) (hl : rows.length < 1000) (R : RdRow (fun b => Nw H0 b ∧ b ≠ p) σ H t r)
    (k : ∀ H' vs', Same H0 H' → (∀ b zs, b ≠ p → H b = some (.lst zs) → H' b = some (.lst zs)) → FL H0 H' d acc n X p vs' (rows ++ [r]) → D.nx σ H') : tDrop (tBM K "list" rAppend (tDGet (tVar 0) (tC (.str X))) (tCons t tNil)) D σ H := by
  obtain ⟨kvs, h1, h2, h3, h4⟩ := F.ex
  refine ⟨_, hs, d, .ref p, rfl, by have q := DGet.k (k := .inr X) h1; rw [h3] at q; exact q, lst_ty F.hp, R H (Same.refl _) _ fun v H2 s2 hv => ⟨p, vs, v, rfl, rfl, s2 _ _ F.hp, ?_, ?_⟩⟩
  · rw [(F.own (.lst vs)).length]
    exact Nat.lt_of_lt_of_le hl (fit3' (Nat.le_refl _))
  have pd : p ≠ d := fun e => by
    have q := F.hp
    rw [e, h1] at q
    cases q
  have sm3 : Same H0 (upd H2 p (.lst (vs ++ [v]))) := fun b o e => by
    rw [upd_ne (fun z => by rw [z, F.fp] at e; cases e)]
    exact s2 _ _ (F.sm _ _ e)
  have up : ∀ o, Same (upd H p o) (upd H2 p o) := fun o b x e => by
    by_cases q : b = p
    · rw [q] at e ⊢
      rw [upd_same] at e ⊢
      exact e
    · rw [upd_ne q] at e ⊢
      exact s2 _ _ e
  refine k _ _ sm3 (fun b zs n e => ?_) ⟨sm3, F.fd, upd_same, F.fp, ⟨kvs, ?_, h2, h3, fun z hz o => ?_⟩, fun o => ?_⟩
  · rw [upd_ne n]
    exact s2 _ _ e
  · rw [upd_ne (Ne.symm pd)]
    exact s2 _ _ h1
  · rw [upd_twice]
    exact (h4 z hz o).lk (Lk.same (up o)) fun _ h => h
  · rw [upd_twice]
    refine paired_app (paired_imp (fun a b x => RowAt.lk x (Lk.same (up o)) fun _ h => h) (F.own o)) (.cons (hv.lk (fun b xs g e => ?_) fun _ h => h.1) .nil)
    rw [upd_ne g.2]
    exact e
/-- rules[X] = rules[X] + rows -/
theorem f_cat {ta : TA} {p : Addr} {vs : List V} {rows more : List Row} (F : FL H0 H d acc n X p vs rows) (hs : σ[0]? = some (some (.ref d))) (hn : n < 1000) (hl : rows.length + more.length ≤ 1000) (R : RdRows (fun b => Nw H0 b ∧ b ≠ p) σ H ta more)
    (k : ∀ H', FAt H0 H' d ((X, rows ++ more) :: acc) (n + 1) → D.nx σ H') : sDPut (tVar 0) (tC (.str X)) (tOp rCat (tDGet (tVar 0) (tC (.str X))) (tLst ta)) D σ H := by
  obtain ⟨kvs, h1, h2, h3, h4⟩ := F.ex
  have lv := (F.own (.lst vs)).length
  refine ⟨_, hs, d, .ref p, rfl, by have q := DGet.k (k := .inr X) h1; rw [h3] at q; exact q, R H (Same.refl _) _ fun ws H2 s2 hw => ⟨by rw [hw.length]; exact fit3' (by omega), fun p2 hp2 => ?_⟩⟩
  have e1 := same_up hp2 (.lst ws) _ _ (s2 _ _ F.hp)
  refine ⟨p, p2, vs, ws, rfl, rfl, e1, upd_same, by rw [lv, hw.length]; exact fit3' hl, fun p3 hp3 => ?_⟩
  have hp3' := sm_none (same_up hp2 (.lst ws)) hp3
  have s3 : Same H (upd (upd H2 p2 (.lst ws)) p3 (.lst (vs ++ ws))) := s2.trans ((same_up hp2 _).trans (same_up hp3 _))
  refine ⟨_, hs, d, _, rfl, DPut.k (k := .inr X) (s3 _ _ h1) (Nat.lt_of_le_of_lt h2 (Nat.lt_of_lt_of_le hn (fit3' (Nat.le_refl _)))), ?_⟩
  have e3 : (upd (upd H2 p2 (.lst ws)) p3 (.lst (vs ++ ws))) p3 = some (.lst (vs ++ ws)) := upd_same
  have e2 : Same H2 (upd (upd H2 p2 (.lst ws)) p3 (.lst (vs ++ ws))) := (same_up hp2 _).trans (same_up hp3 _)
  have fp3 : H0 p3 = none := sm_none F.sm (sm_none s2 hp3')
  generalize upd (upd H2 p2 (.lst ws)) p3 (.lst (vs ++ ws)) = H3 at s3 e3 e2 ⊢
  have hd3 := s3 _ _ h1
  have pd : p3 ≠ d := fun e => by rw [e, hd3] at e3; cases e3
  have k3 : ∀ {G : Addr → Prop} o, Lk G H3 (upd H3 d o) := fun o => lk_dict hd3
  refine k _ ⟨fun b o e => ?_, F.fd, _, upd_same, Nat.le_trans (length_putK _ _ _) (Nat.succ_le_succ h2), fun z => ?_⟩
  · rw [upd_ne (fun z => by rw [z, F.fd] at e; cases e)]
    exact s3 _ _ (F.sm _ _ e)
  · rw [valV_put, List.lookup_cons]
    by_cases e : z = X
    · subst e
      rw [if_pos rfl, beq_self_eq_true]
      refine ⟨p3, _, rfl, (by rw [upd_ne pd]; exact e3), fp3, paired_app (paired_imp (fun a b x => RowAt.lk x (fun b xs _ e => ?_) fun _ h => h) (F.own (.lst vs))) (paired_imp (fun a b x => RowAt.lk x (fun b xs _ e => ?_) fun _ h => h.1) hw)⟩
      · rw [upd_id F.hp] at e
        exact k3 _ _ _ True.intro (s3 _ _ e) (G := fun _ => True)
      · exact k3 _ _ _ True.intro (e2 _ _ e) (G := fun _ => True)
    · rw [if_neg (key_ne e), beq_eq_false_iff_ne.mpr e]
      have q := h4 z e (.lst vs)
      rw [upd_id F.hp] at q
      exact q.lk (fun b xs _ e => k3 (G := fun _ => True) _ _ _ True.intro (s3 _ _ e)) fun _ h => h
end
end K04
end

section
set_option Elab.async false
set_option maxRecDepth 100000
set_option maxHeartbeats 4000000
set_option pp.maxSteps 2000
/-! K18: the law's def that makes the forms. -/
namespace K04
open PySem L2 PyProof.Rows
/-- the forms stand at d -/
def RulesAt (G : Addr → Prop) (H : Hp) (d : Addr) : Prop := ∃ kvs, H d = some (.dK kvs) ∧ ∀ z, RO G H (valV kvs (.inr z)) (rowsOf z)
theorem look_same {α : Type} [DecidableEq α] {a b : List (Str × α)} (h : ((a.map (·.1) ++ b.map (·.1)).all fun z => decide (a.lookup z = b.lookup z)) = true) (z : Str) : a.lookup z = b.lookup z := by
  by_cases m : z ∈ a.map (·.1) ++ b.map (·.1)
  · exact of_decide_eq_true (List.all_eq_true.mp h z m)
  · have no : ∀ l : List (Str × α), z ∉ l.map (·.1) → l.lookup z = none := fun l hl => by
      cases e : l.lookup z with
      | none => rfl
      | some v => exact absurd (List.mem_map.mpr ⟨_, lookup_mem e, rfl⟩) hl
    rw [no a fun q => m (List.mem_append_left _ q), no b fun q => m (List.mem_append_right _ q)]
section
variable {H0 H : Hp} {d : Addr} {acc : List (Str × List Row)} {n : Nat} {X : Str} {σ : L2.St} {D : Ends}
theorem FL.fr {p : Addr} {vs : List V} {rows : List Row} (F : FL H0 H d acc n X p vs rows) : Fr (fun b => Nw H0 b ∧ b ≠ p) H := fun b h => ⟨sm_none F.sm h, fun e => by
  rw [e, F.hp] at h
  cases h⟩
theorem FL.with {p pm : Addr} {vs : List V} {rows : List Row} {zs : List Str} (F : FL H0 H d acc n X p vs rows) (h : H pm = none) :
    FL H0 (upd H pm (.lst (zs.map V.str))) d acc n X p vs rows ∧ StrsAt (fun b => Nw H0 b ∧ b ≠ p) (upd H pm (.lst (zs.map V.str))) (.ref pm) zs := by
  have s := same_up h (.lst (zs.map V.str))
  have hg := F.fr pm h
  have up : ∀ o, Same (upd H p o) (upd (upd H pm (.lst (zs.map V.str))) p o) := fun o b x e => by
    by_cases q : b = p
    · rw [q] at e ⊢
      rw [upd_same] at e ⊢
      exact e
    · rw [upd_ne q] at e ⊢
      exact s _ _ e
  obtain ⟨kvs, h1, h2, h3, h4⟩ := F.ex
  exact ⟨⟨F.sm.trans s, F.fd, s _ _ F.hp, F.fp, ⟨kvs, s _ _ h1, h2, h3, fun z hz o => (h4 z hz o).lk (Lk.same (up o)) fun _ h => h⟩, fun o => paired_imp (fun a b x => RowAt.lk x (Lk.same (up o)) fun _ h => h) (F.own o)⟩, pm, rfl, upd_same, hg⟩
theorem FAt.with {pm : Addr} {zs : List Str} (F : FAt H0 H d acc n) (h : H pm = none) : FAt H0 (upd H pm (.lst (zs.map V.str))) d acc n ∧ StrsAt (Nw H0) (upd H pm (.lst (zs.map V.str))) (.ref pm) zs := by
  have s := same_up h (.lst (zs.map V.str))
  obtain ⟨kvs, h1, h2, h3⟩ := F.ex
  exact ⟨⟨F.sm.trans s, F.fd, kvs, s _ _ h1, h2, fun z => (h3 z).lk (Lk.same s) fun _ h => h⟩, pm, rfl, upd_same, sm_none F.sm h⟩
/-- the first display -/
theorem f_first {ta : TA} {rows : List Row} {Q : VK} (R : ∀ H1, Same H H1 → Fr (Nw H) H1 → RdRows (Nw H) σ H1 ta rows) (k : ∀ d H2, FAt H H2 d [(X, rows)] 1 → Q (.ref d) H2) (hl : rows.length ≤ 1000 := by decide) : tDisp [(tC (.str X), tLst ta)] σ H Q := fun d hd => by
  have s1 := same_up hd (.dK [])
  refine R _ s1 (Fr.of s1) _ (Same.refl _) _ fun vs H2 s2 hv => ⟨by rw [hv.length]; exact fit3' hl, fun p hp => ?_⟩
  have hd2 : H2 d = some (.dK []) := s2 _ _ upd_same
  refine ⟨same_up hp _ _ _ hd2, [(.inr X, .ref p)], rfl, (by show 1 ≤ 15; decide), k d _ ?_⟩
  have s3 : Same H2 (upd H2 p (.lst vs)) := same_up hp _
  have pd : p ≠ d := fun e => by rw [e, hd2] at hp; cases hp
  refine ⟨fun b o e => ?_, hd, _, upd_same, Nat.le_refl _, fun z => ?_⟩
  · rw [upd_ne (fun z => by rw [z, hd] at e; cases e)]
    exact s3 _ _ (s2 _ _ (s1 _ _ e))
  · rw [List.lookup_cons]
    by_cases e : z = X
    · subst e
      have e2 : valV (mergeK [] [((.inr z : Key), V.ref p)]) (.inr z) = some (.ref p) := valV_pos rfl
      rw [beq_self_eq_true, e2]
      refine ⟨p, vs, rfl, (by rw [upd_ne pd]; exact upd_same), sm_none s1 (sm_none s2 hp), paired_imp (fun a b x => RowAt.lk x (fun b xs _ e => ?_) fun _ h => h) hv⟩
      rw [upd_ne (fun z => by rw [z, hd2] at e; cases e)]
      exact s3 _ _ e
    · rw [beq_eq_false_iff_ne.mpr e]
      have e2 : valV (mergeK [] [((.inr X : Key), V.ref p)]) (.inr z) = none := valV_neg (fun q => e (Sum.inr.inj q).symm)
      rw [e2]
      exact True.intro
theorem f_first1 {ta : TA} {rows : List Row} {i : Nat} (R : ∀ H1, Same H H1 → Fr (Nw H) H1 → RdRows (Nw H) σ H1 ta rows) (k : ∀ d H2, FAt H H2 d [(X, rows)] 1 → D.nx (σ.set i (some (.ref d))) H2) (hl : rows.length ≤ 1000 := by decide) : tAsg (tDisp [(tC (.str X), tLst ta)]) (gName i) D σ H := f_first R k hl
/-- rules[X], rules[Y] = rows, more -/
theorem f_two {K : PySem.W.Frag} {ta tb : TA} {rows more : List Row} {Y : Str} (F : FAt H0 H d acc n) (hs : σ[0]? = some (some (.ref d))) (hn : n < 999) (hxy : X ≠ Y) (R : RdRows (Nw H0) σ H ta rows) (R2 : RdRows (Nw H0) σ H tb more)
    (k : ∀ H', FAt H0 H' d ((Y, more) :: (X, rows) :: acc) (n + 2) → D.nx σ H') (hl : rows.length ≤ 1000 := by decide) (hl2 : more.length ≤ 1000 := by decide) :
    tAsg (tTup (tCons (tLst ta) (tCons (tLst tb) tNil))) (gTup K 2 (gCons (gSub (tVar 0) (tC (.str X)) rSetD) (gCons (gSub (tVar 0) (tC (.str Y)) rSetD) gNil))) D σ H := by
  obtain ⟨kvs, h1, h2, h3⟩ := F.ex
  refine R H (Same.refl _) _ fun vs H2 s2 hv => ⟨by rw [hv.length]; exact fit3' hl, fun p hp => ?_⟩
  have s3 := s2.trans (same_up hp (.lst vs))
  refine R2 _ s3 _ fun ws H4 s4 hw => ⟨by rw [hw.length]; exact fit3' hl2, fun p2 hp2 => ⟨fit3' (show 2 ≤ 1000 by decide), fun p3 hp3 => ?_⟩⟩
  have s5 := s3.trans (s4.trans ((same_up hp2 (.lst ws)).trans (same_up hp3 (.tup [.ref p, .ref p2]))))
  have s5v := (same_up hp (.lst vs)).trans (s4.trans ((same_up hp2 (.lst ws)).trans (same_up hp3 (.tup [.ref p, .ref p2]))))
  have s5w := (same_up hp2 (.lst ws)).trans (same_up hp3 (.tup [.ref p, .ref p2]))
  have ep : (upd (upd H4 p2 (.lst ws)) p3 (.tup [.ref p, .ref p2])) p = some (.lst vs) := (s4.trans s5w) _ _ upd_same
  have ep2 : (upd (upd H4 p2 (.lst ws)) p3 (.tup [.ref p, .ref p2])) p2 = some (.lst ws) := same_up hp3 _ _ _ upd_same
  have fp : H0 p = none := sm_none F.sm (sm_none s2 hp)
  have fp2 : H0 p2 = none := sm_none F.sm (sm_none s3 (sm_none s4 hp2))
  refine ⟨p3, _, rfl, SqT.of upd_same, rfl, ?_⟩
  generalize upd (upd H4 p2 (.lst ws)) p3 (.tup [.ref p, .ref p2]) = H5 at s5 s5v s5w ep ep2 ⊢
  have hd5 := s5 _ _ h1
  have b1 : kvs.length < sizeLine := Nat.lt_of_le_of_lt h2 (Nat.lt_of_lt_of_le (show n < 1000 by omega) (fit3' (Nat.le_refl _)))
  have l1 := length_putK kvs (.inr X : Key) (.ref p)
  refine ⟨_, _, rfl, _, hs, d, _, rfl, DPut.k (k := .inr X) hd5 b1, _, _, rfl, _, hs, d, _, rfl, DPut.k (k := .inr Y) upd_same (Nat.lt_of_le_of_lt l1 (Nat.lt_of_lt_of_le (show kvs.length + 1 < 1000 by omega) (fit3' (Nat.le_refl _)))), rfl, ?_⟩
  rw [upd_twice]
  have kd : ∀ {G : Addr → Prop} o, Lk G H5 (upd H5 d o) := fun o => lk_dict hd5
  have pd : p ≠ d := fun e => by rw [e, hd5] at ep; cases ep
  have pd2 : p2 ≠ d := fun e => by rw [e, hd5] at ep2; cases ep2
  have l2 := length_putK (putK kvs (.inr X : Key) (.ref p)) (.inr Y) (.ref p2)
  refine k _ ⟨fun b o e => ?_, F.fd, _, upd_same, by omega, fun z => ?_⟩
  · rw [upd_ne (fun z => by rw [z, F.fd] at e; cases e)]
    exact s5 _ _ (F.sm _ _ e)
  · rw [valV_put, valV_put, List.lookup_cons, List.lookup_cons]
    by_cases e : z = Y
    · subst e
      rw [if_pos rfl, beq_self_eq_true]
      refine ⟨p2, ws, rfl, (by rw [upd_ne pd2]; exact ep2), fp2, paired_imp (fun a b x => RowAt.lk x (fun b xs _ e => ?_) fun _ h => h) hw⟩
      exact kd (G := fun _ => True) _ _ _ True.intro (s5w _ _ e)
    · rw [if_neg (key_ne e), beq_eq_false_iff_ne.mpr e]
      by_cases e2 : z = X
      · subst e2
        rw [if_pos rfl, beq_self_eq_true]
        refine ⟨p, vs, rfl, (by rw [upd_ne pd]; exact ep), fp, paired_imp (fun a b x => RowAt.lk x (fun b xs _ e => ?_) fun _ h => h) hv⟩
        exact kd (G := fun _ => True) _ _ _ True.intro (s5v _ _ e)
      · rw [if_neg (key_ne e2), beq_eq_false_iff_ne.mpr e2]
        exact (h3 z).lk (fun b xs _ e => kd (G := fun _ => True) _ _ _ True.intro (s5 _ _ e)) fun _ h => h
end
theorem RO.look {G : Addr → Prop} {H : Hp} {o : Option V} {a : List (Str × List Row)} {z : Str} (x : RO G H o (a.lookup z)) (h : ((a.map (·.1) ++ tab.map (·.1)).all fun z => decide (a.lookup z = tab.lookup z)) = true) : RO G H o (rowsOf z) := by
  show RO _ _ _ (tab.lookup z)
  rw [← look_same h z]
  exact x
/-! each with what follows -/
section
variable {H0 H : Hp} {d : Addr} {acc : List (Str × List Row)} {n : Nat} {X : Str} {σ : L2.St} {D : Ends} {u : TS}
theorem q_first {ta : TA} {rows : List Row} {i : Nat} (R : ∀ H1, Same H H1 → Fr (Nw H) H1 → RdRows (Nw H) σ H1 ta rows) (hl : rows.length ≤ 1000) (k : ∀ d H2, FAt H H2 d [(X, rows)] 1 → u D (σ.set i (some (.ref d))) H2) : tSeq (tAsg (tDisp [(tC (.str X), tLst ta)]) (gName i)) u D σ H := f_first1 (D := { D with nx := fun σ H => u D σ H }) R k hl
theorem q_put {ta : TA} {rows : List Row} (F : FAt H0 H d acc n) (hs : σ[0]? = some (some (.ref d))) (hn : n < 1000) (hl : rows.length ≤ 1000) (R : RdRows (Nw H0) σ H ta rows)
    (k : ∀ H' p vs, FL H0 H' d acc (n + 1) X p vs rows → u D σ H') : tSeq (sDPut (tVar 0) (tC (.str X)) (tLst ta)) u D σ H := f_put F hs hn hl R fun H' p vs _ _ F => k H' p vs F
theorem q_app {K : PySem.W.Frag} {t : TE} {p : Addr} {vs : List V} {rows : List Row} {r : Row} (F : FL H0 H d acc n X p vs rows) (hs : σ[0]? = some (some (.ref d))) (hl : rows.length < 1000) (R : RdRow (fun b => Nw H0 b ∧ b ≠ p) σ H t r)
    (k : ∀ H' vs', FL H0 H' d acc n X p vs' (rows ++ [r]) → u D σ H') : tSeq (tDrop (tBM K "list" rAppend (tDGet (tVar 0) (tC (.str X))) (tCons t tNil))) u D σ H := f_app F hs hl R fun H' vs _ _ F => k H' vs F
theorem q_cat {ta : TA} {p : Addr} {vs : List V} {rows more : List Row} (F : FL H0 H d acc n X p vs rows) (hs : σ[0]? = some (some (.ref d))) (hn : n < 1000) (hl : rows.length + more.length ≤ 1000) (R : RdRows (fun b => Nw H0 b ∧ b ≠ p) σ H ta more)
    (k : ∀ H', FAt H0 H' d ((X, rows ++ more) :: acc) (n + 1) → u D σ H') : tSeq (sDPut (tVar 0) (tC (.str X)) (tOp rCat (tDGet (tVar 0) (tC (.str X))) (tLst ta))) u D σ H := f_cat F hs hn hl R k
theorem q_two {K : PySem.W.Frag} {ta tb : TA} {rows more : List Row} {Y : Str} (F : FAt H0 H d acc n) (hs : σ[0]? = some (some (.ref d))) (hn : n < 999) (hxy : X ≠ Y) (hl : rows.length ≤ 1000) (hl2 : more.length ≤ 1000) (R : RdRows (Nw H0) σ H ta rows) (R2 : RdRows (Nw H0) σ H tb more)
    (k : ∀ H', FAt H0 H' d ((Y, more) :: (X, rows) :: acc) (n + 2) → u D σ H') : tSeq (tAsg (tTup (tCons (tLst ta) (tCons (tLst tb) tNil))) (gTup K 2 (gCons (gSub (tVar 0) (tC (.str X)) rSetD) (gCons (gSub (tVar 0) (tC (.str Y)) rSetD) gNil)))) u D σ H := f_two F hs hn hxy R R2 k hl hl2
theorem q_lit {i : Nat} {ta : TA} {zs : List Str} (e : ta = strTA zs) (hl : zs.length ≤ 1000) (k : ∀ pm, H pm = none → u D (σ.set i (some (.ref pm))) (upd H pm (.lst (zs.map V.str)))) : tSeq (tAsg (tLst ta) (gName i)) u D σ H := f_lit hl k e
end
section
variable {P : Program} {w : World} {K : PySem.W.Frag} {mg : Str → Option Value} {base : Heap}
def spForms : Sp := fun vs H Q _ => vs = [] ∧ ∀ d H', Same H H' → H d = none → RulesAt (Nw H) H' d → Q (.ref d) H'
theorem sc_lw_forms : FnScope ["_law_rules", "_law_memory", "_law_signs"] [] (defScope (topS 61)) := ⟨rfl, rfl, rfl, by decide +kernel, rfl, by decide +kernel, by decide +kernel⟩
theorem ok_lw_forms (Z : LwTx K mg) : FnOk P w K mg base CX0 1 Z.lw_forms.f Z.lw_forms.fd [] spForms := by
  refine Z.lw_forms.F.ok sc_lw_forms (fun vs H Q E h => ?_) (fun cdv A outer s H vs Q E hr h => ?_)
  · obtain ⟨rfl, _⟩ := h
    rfl
  obtain ⟨rfl, q⟩ := h
  have nd := sc_lw_forms.nd
  refine ⟨_, (pss_cons (ps_set (i := 0) nd rfl (.inl rfl) (pe_disp (pps_cons pe_str (pe_lst (pa_cons (pe_lst (pa_cons pe_non (pa_cons (pe_lst (pa_cons pe_str (pa_cons pe_str (pa_cons pe_str (pa_cons pe_str (pa_cons pe_str (pa_cons pe_str (pa_cons pe_str (pa_cons pe_str (pa_cons pe_str (pa_cons pe_str pa_nil))))))))))) pa_nil))) pa_nil)) pps_nil) (by rfl) (by rfl) (fun z => by cases z) (by decide)))
    (pss_cons (ps_dput (hu_of hr) (pv 0) pe_str (pe_lst (pa_cons (pe_lst (pa_cons (pe_lst (pa_cons pe_str pa_nil)) (pa_cons (pe_lst (pa_cons pe_str (pa_cons pe_str pa_nil))) pa_nil))) (pa_cons (pe_lst (pa_cons pe_non (pa_cons (pe_lst pa_nil) pa_nil))) pa_nil))) rfl)
    (pss_cons (ps_dput (hu_of hr) (pv 0) pe_str (pe_lst (pa_cons (pe_lst (pa_cons pe_non (pa_cons (pe_lst (pa_cons pe_str (pa_cons pe_str (pa_cons pe_str (pa_cons pe_str (pa_cons pe_str (pa_cons pe_str pa_nil))))))) pa_nil))) pa_nil)) rfl)
    (pss_cons (ps_dput (hu_of hr) (pv 0) pe_str (pe_lst (pa_cons (pe_lst (pa_cons (pe_lst (pa_cons pe_str pa_nil)) (pa_cons (pe_lst (pa_cons pe_str (pa_cons pe_str (pa_cons pe_str pa_nil)))) pa_nil))) (pa_cons (pe_lst (pa_cons pe_non (pa_cons (pe_lst pa_nil) pa_nil))) pa_nil))) rfl)
    (pss_cons (ps_dput (hu_of hr) (pv 0) pe_str (pe_lst (pa_cons (pe_lst (pa_cons (pe_lst (pa_cons pe_str pa_nil)) (pa_cons (pe_lst (pa_cons pe_str (pa_cons pe_str (pa_cons pe_str pa_nil)))) pa_nil))) (pa_cons (pe_lst (pa_cons pe_non (pa_cons (pe_lst pa_nil) pa_nil))) pa_nil))) rfl)
    (pss_cons (ps_dput (hu_of hr) (pv 0) pe_str (pe_lst (pa_cons (pe_lst (pa_cons (pe_lst (pa_cons pe_str pa_nil)) (pa_cons (pe_lst (pa_cons pe_str (pa_cons pe_str (pa_cons pe_str pa_nil)))) pa_nil))) (pa_cons (pe_lst (pa_cons pe_non (pa_cons (pe_lst pa_nil) pa_nil))) pa_nil))) rfl)
    (pss_cons (ps_dput (hu_of hr) (pv 0) pe_str (pe_lst (pa_cons (pe_lst (pa_cons (pe_lst (pa_cons pe_str pa_nil)) (pa_cons (pe_lst (pa_cons pe_str (pa_cons pe_str (pa_cons pe_str pa_nil)))) pa_nil))) (pa_cons (pe_lst (pa_cons pe_non (pa_cons (pe_lst pa_nil) pa_nil))) pa_nil))) rfl)
    (pss_cons (ps_dput (hu_of hr) (pv 0) pe_str (pe_lst (pa_cons (pe_lst (pa_cons (pe_lst (pa_cons pe_str pa_nil)) (pa_cons (pe_lst pa_nil) pa_nil))) (pa_cons (pe_lst (pa_cons pe_non (pa_cons (pe_lst (pa_cons pe_str (pa_cons pe_str pa_nil))) pa_nil))) pa_nil))) rfl)
    (pss_cons (ps_dput (hu_of hr) (pv 0) pe_str (pe_lst (pa_cons (pe_lst (pa_cons (pe_lst (pa_cons pe_str (pa_cons pe_str (pa_cons pe_str pa_nil)))) (pa_cons (pe_lst (pa_cons pe_str (pa_cons pe_str (pa_cons pe_str (pa_cons pe_str (pa_cons pe_str pa_nil)))))) pa_nil))) pa_nil)) rfl)
    (pss_cons (ps_expr (pe_bm PySem.F.plainAttrs_list PySem.F.slot_list_append PySem.F.type_list_append mt_append (pe_dget (hu_of hr) (pv 0) pe_str (fun _ _ => rfl)) (pa_cons (pe_lst (pa_cons (pe_lst (pa_cons pe_str pa_nil)) (pa_cons (pe_lst (pa_cons pe_str (pa_cons pe_str (pa_cons pe_str (pa_cons pe_str (pa_cons pe_str (pa_cons pe_str (pa_cons pe_str (pa_cons pe_str (pa_cons pe_str pa_nil)))))))))) pa_nil))) pa_nil)))
    (pss_cons (ps_set (i := 1) nd rfl (.inl rfl) (pe_lst (pa_cons pe_str (pa_cons pe_str (pa_cons pe_str (pa_cons pe_str (pa_cons pe_str (pa_cons pe_str (pa_cons pe_str (pa_cons pe_str (pa_cons pe_str (pa_cons pe_str (pa_cons pe_str (pa_cons pe_str (pa_cons pe_str (pa_cons pe_str (pa_cons pe_str pa_nil)))))))))))))))))
    (pss_cons (ps_expr (pe_bm PySem.F.plainAttrs_list PySem.F.slot_list_append PySem.F.type_list_append mt_append (pe_dget (hu_of hr) (pv 0) pe_str (fun _ _ => rfl)) (pa_cons (pe_lst (pa_cons (pe_lst (pa_cons pe_str pa_nil)) (pa_cons (pv 1) pa_nil))) pa_nil)))
    (pss_cons (ps_expr (pe_bm PySem.F.plainAttrs_list PySem.F.slot_list_append PySem.F.type_list_append mt_append (pe_dget (hu_of hr) (pv 0) pe_str (fun _ _ => rfl)) (pa_cons (pe_lst (pa_cons (pe_lst (pa_cons pe_str pa_nil)) (pa_cons (pe_lst (pa_cons pe_str (pa_cons pe_str (pa_cons pe_str (pa_cons pe_str (pa_cons pe_str (pa_cons pe_str (pa_cons pe_str (pa_cons pe_str (pa_cons pe_str pa_nil)))))))))) pa_nil))) pa_nil)))
    (pss_cons (ps_expr (pe_bm PySem.F.plainAttrs_list PySem.F.slot_list_append PySem.F.type_list_append mt_append (pe_dget (hu_of hr) (pv 0) pe_str (fun _ _ => rfl)) (pa_cons (pe_lst (pa_cons (pe_lst (pa_cons pe_str pa_nil)) (pa_cons (pe_lst (pa_cons pe_str (pa_cons pe_str (pa_cons pe_str (pa_cons pe_str (pa_cons pe_str (pa_cons pe_str pa_nil))))))) pa_nil))) pa_nil)))
    (pss_cons (ps_expr (pe_bm PySem.F.plainAttrs_list PySem.F.slot_list_append PySem.F.type_list_append mt_append (pe_dget (hu_of hr) (pv 0) pe_str (fun _ _ => rfl)) (pa_cons (pe_lst (pa_cons pe_non (pa_cons (pe_lst (pa_cons pe_str (pa_cons pe_str pa_nil))) pa_nil))) pa_nil)))
    (pss_cons (ps_dput (hu_of hr) (pv 0) pe_str (pe_lst (pa_cons (pe_lst (pa_cons (pe_lst (pa_cons pe_str pa_nil)) (pa_cons (pe_lst (pa_cons pe_str (pa_cons pe_str (pa_cons pe_str (pa_cons pe_str (pa_cons pe_str pa_nil)))))) pa_nil))) (pa_cons (pe_lst (pa_cons pe_non (pa_cons (pe_lst pa_nil) pa_nil))) pa_nil))) rfl)
    (pss_cons (ps_dput (hu_of hr) (pv 0) pe_str (pe_lst (pa_cons (pe_lst (pa_cons (pe_lst (pa_cons pe_str pa_nil)) (pa_cons (pe_lst (pa_cons pe_str (pa_cons pe_str (pa_cons pe_str (pa_cons pe_str (pa_cons pe_str (pa_cons pe_str (pa_cons pe_str pa_nil)))))))) pa_nil))) pa_nil)) rfl)
    (pss_cons (ps_dput (hu_of hr) (pv 0) pe_str (pe_op op_cat (pe_dget (hu_of hr) (pv 0) pe_str (fun _ _ => rfl)) (pe_lst (pa_cons (pe_lst (pa_cons (pe_lst (pa_cons pe_str pa_nil)) (pa_cons (pe_lst (pa_cons pe_str (pa_cons pe_str (pa_cons pe_str (pa_cons pe_str (pa_cons pe_str (pa_cons pe_str (pa_cons pe_str pa_nil)))))))) pa_nil))) (pa_cons (pe_lst (pa_cons pe_non (pa_cons (pe_lst (pa_cons pe_str (pa_cons pe_str (pa_cons pe_str pa_nil)))) pa_nil))) pa_nil)))) rfl)
    (pss_cons (ps_dput (hu_of hr) (pv 0) pe_str (pe_lst (pa_cons (pe_lst (pa_cons (pe_lst (pa_cons pe_str pa_nil)) (pa_cons (pe_lst pa_nil) pa_nil))) (pa_cons (pe_lst (pa_cons pe_non (pa_cons (pe_lst (pa_cons pe_str (pa_cons pe_str pa_nil))) pa_nil))) pa_nil))) rfl)
    (pss_cons (ps_dput (hu_of hr) (pv 0) pe_str (pe_lst (pa_cons (pe_lst (pa_cons (pe_lst (pa_cons pe_str pa_nil)) (pa_cons (pe_lst (pa_cons pe_str (pa_cons pe_str (pa_cons pe_str pa_nil)))) pa_nil))) (pa_cons (pe_lst (pa_cons pe_non (pa_cons (pe_lst pa_nil) pa_nil))) pa_nil))) rfl)
    (pss_cons (ps_dput (hu_of hr) (pv 0) pe_str (pe_lst (pa_cons (pe_lst (pa_cons pe_non (pa_cons (pe_lst (pa_cons pe_str (pa_cons pe_str (pa_cons pe_str pa_nil)))) pa_nil))) pa_nil)) rfl)
    (pss_cons (ps_dput (hu_of hr) (pv 0) pe_str (pe_lst (pa_cons (pe_lst (pa_cons pe_non (pa_cons (pe_lst (pa_cons pe_str (pa_cons pe_str pa_nil))) pa_nil))) pa_nil)) rfl)
    (pss_cons (ps_dput (hu_of hr) (pv 0) pe_str (pe_lst (pa_cons (pe_lst (pa_cons (pe_lst (pa_cons pe_str (pa_cons pe_str (pa_cons pe_str (pa_cons pe_str (pa_cons pe_str (pa_cons pe_str pa_nil))))))) (pa_cons (pe_lst (pa_cons pe_str (pa_cons pe_str (pa_cons pe_str pa_nil)))) pa_nil))) (pa_cons (pe_lst (pa_cons pe_non (pa_cons (pe_lst pa_nil) pa_nil))) pa_nil))) rfl)
    (pss_cons (ps_dput (hu_of hr) (pv 0) pe_str (pe_lst (pa_cons (pe_lst (pa_cons pe_non (pa_cons (pe_lst (pa_cons pe_str (pa_cons pe_str pa_nil))) pa_nil))) pa_nil)) rfl)
    (pss_cons (ps_set (i := 2) nd rfl (.inl rfl) (pe_lst (pa_cons pe_str (pa_cons pe_str (pa_cons pe_str (pa_cons pe_str (pa_cons pe_str (pa_cons pe_str (pa_cons pe_str (pa_cons pe_str (pa_cons pe_str (pa_cons pe_str (pa_cons pe_str (pa_cons pe_str pa_nil))))))))))))))
    (pss_cons (ps_dput (hu_of hr) (pv 0) pe_str (pe_lst (pa_cons (pe_lst (pa_cons (pv 2) (pa_cons (pe_lst (pa_cons pe_str (pa_cons pe_str (pa_cons pe_str pa_nil)))) pa_nil))) (pa_cons (pe_lst (pa_cons (pe_lst (pa_cons pe_str pa_nil)) (pa_cons (pe_lst (pa_cons pe_str (pa_cons pe_str (pa_cons pe_str (pa_cons pe_str pa_nil))))) pa_nil))) (pa_cons (pe_lst (pa_cons pe_non (pa_cons (pe_lst pa_nil) pa_nil))) pa_nil)))) rfl)
    (pss_cons (ps_dput (hu_of hr) (pv 0) pe_str (pe_lst (pa_cons (pe_lst (pa_cons (pe_lst (pa_cons pe_str (pa_cons pe_str (pa_cons pe_str (pa_cons pe_str pa_nil))))) (pa_cons (pe_lst (pa_cons pe_str (pa_cons pe_str pa_nil))) pa_nil))) (pa_cons (pe_lst (pa_cons pe_non (pa_cons (pe_lst (pa_cons pe_str (pa_cons pe_str pa_nil))) pa_nil))) pa_nil))) rfl)
    (pss_cons (ps_dput (hu_of hr) (pv 0) pe_str (pe_lst (pa_cons (pe_lst (pa_cons (pe_lst (pa_cons pe_str pa_nil)) (pa_cons (pe_lst (pa_cons pe_str (pa_cons pe_str (pa_cons pe_str (pa_cons pe_str (pa_cons pe_str (pa_cons pe_str pa_nil))))))) pa_nil))) (pa_cons (pe_lst (pa_cons pe_non (pa_cons (pe_lst pa_nil) pa_nil))) pa_nil))) rfl)
    (pss_cons (ps_dput (hu_of hr) (pv 0) pe_str (pe_lst (pa_cons (pe_lst (pa_cons (pe_lst (pa_cons pe_str pa_nil)) (pa_cons (pe_lst (pa_cons pe_str (pa_cons pe_str (pa_cons pe_str pa_nil)))) pa_nil))) (pa_cons (pe_lst (pa_cons (pe_lst (pa_cons pe_str pa_nil)) (pa_cons (pe_lst (pa_cons pe_str (pa_cons pe_str (pa_cons pe_str (pa_cons pe_str (pa_cons pe_str (pa_cons pe_str pa_nil))))))) pa_nil))) pa_nil))) rfl)
    (pss_cons (ps_expr (pe_bm PySem.F.plainAttrs_list PySem.F.slot_list_append PySem.F.type_list_append mt_append (pe_dget (hu_of hr) (pv 0) pe_str (fun _ _ => rfl)) (pa_cons (pe_lst (pa_cons pe_non (pa_cons (pe_lst (pa_cons pe_str (pa_cons pe_str (pa_cons pe_str pa_nil)))) pa_nil))) pa_nil)))
    (pss_cons (ps_dput (hu_of hr) (pv 0) pe_str (pe_lst (pa_cons (pe_lst (pa_cons (pe_lst (pa_cons pe_str pa_nil)) (pa_cons (pe_lst (pa_cons pe_str (pa_cons pe_str (pa_cons pe_str (pa_cons pe_str pa_nil))))) pa_nil))) (pa_cons (pe_lst (pa_cons pe_non (pa_cons (pe_lst pa_nil) pa_nil))) pa_nil))) rfl)
    (pss_cons (ps_dput (hu_of hr) (pv 0) pe_str (pe_lst (pa_cons (pe_lst (pa_cons (pe_lst (pa_cons pe_str pa_nil)) (pa_cons (pe_lst (pa_cons pe_str (pa_cons pe_str pa_nil))) pa_nil))) (pa_cons (pe_lst (pa_cons (pe_lst (pa_cons pe_str pa_nil)) (pa_cons (pe_lst (pa_cons pe_str (pa_cons pe_str pa_nil))) pa_nil))) (pa_cons (pe_lst (pa_cons pe_non (pa_cons (pe_lst pa_nil) pa_nil))) pa_nil)))) rfl)
    (pss_cons (ps_asg (pe_tup (pa_cons (pe_lst (pa_cons (pe_lst (pa_cons pe_non (pa_cons (pe_lst (pa_cons pe_str (pa_cons pe_str pa_nil))) pa_nil))) pa_nil)) (pa_cons (pe_lst (pa_cons (pe_lst (pa_cons pe_non (pa_cons (pe_lst (pa_cons pe_str (pa_cons pe_str pa_nil))) pa_nil))) pa_nil)) pa_nil))) (pg_tup (by rfl) (pgs_cons (pg_sub (pv 0) pe_str (set_dict (hu_of hr))) (pgs_cons (pg_sub (pv 0) pe_str (set_dict (hu_of hr))) pgs_nil))))
    (pss_one (ps_ret (pv 0)))))))))))))))))))))))))))))))))))), ?_⟩
  refine q_first (X := "DESIGN") (rows := [(none, ["design", "{", "MODULE", "MODULES", "top", "NAME", "SIZES", ";", "}", "END"])]) (fun H1 s1 f1 => (rdR_cons (rdRow f1 rdH_no (rdS_lit f1 (by decide))) rdR_nil)) (by decide) fun d H2 F => ?_
  refine q_put (X := "MODULES") (rows := [(some ["module"], ["MODULE", "MODULES"]), (none, [])]) F rfl (by decide) (by decide) (rdR_cons (rdRow (Fr.of F.sm) (rdH_so (rdS_lit (Fr.of F.sm) (by decide))) (rdS_lit (Fr.of F.sm) (by decide))) (rdR_cons (rdRow (Fr.of F.sm) rdH_no (rdS_lit (Fr.of F.sm) (by decide))) rdR_nil)) fun H2 p vs F => ?_
  have F := F.fat
  refine q_put (X := "MODULE") (rows := [(none, ["module", "NAME", "SIZENAMES", "{", "ITEMS", "}"])]) F rfl (by decide) (by decide) (rdR_cons (rdRow (Fr.of F.sm) rdH_no (rdS_lit (Fr.of F.sm) (by decide))) rdR_nil) fun H2 p vs F => ?_
  have F := F.fat
  refine q_put (X := "SIZENAMES") (rows := [(some ["size"], ["size", "NAME", "MORENAMES"]), (none, [])]) F rfl (by decide) (by decide) (rdR_cons (rdRow (Fr.of F.sm) (rdH_so (rdS_lit (Fr.of F.sm) (by decide))) (rdS_lit (Fr.of F.sm) (by decide))) (rdR_cons (rdRow (Fr.of F.sm) rdH_no (rdS_lit (Fr.of F.sm) (by decide))) rdR_nil)) fun H2 p vs F => ?_
  have F := F.fat
  refine q_put (X := "MORENAMES") (rows := [(some [","], [",", "NAME", "MORENAMES"]), (none, [])]) F rfl (by decide) (by decide) (rdR_cons (rdRow (Fr.of F.sm) (rdH_so (rdS_lit (Fr.of F.sm) (by decide))) (rdS_lit (Fr.of F.sm) (by decide))) (rdR_cons (rdRow (Fr.of F.sm) rdH_no (rdS_lit (Fr.of F.sm) (by decide))) rdR_nil)) fun H2 p vs F => ?_
  have F := F.fat
  refine q_put (X := "SIZES") (rows := [(some ["size"], ["size", "NUM", "MORENUMS"]), (none, [])]) F rfl (by decide) (by decide) (rdR_cons (rdRow (Fr.of F.sm) (rdH_so (rdS_lit (Fr.of F.sm) (by decide))) (rdS_lit (Fr.of F.sm) (by decide))) (rdR_cons (rdRow (Fr.of F.sm) rdH_no (rdS_lit (Fr.of F.sm) (by decide))) rdR_nil)) fun H2 p vs F => ?_
  have F := F.fat
  refine q_put (X := "MORENUMS") (rows := [(some [","], [",", "NUM", "MORENUMS"]), (none, [])]) F rfl (by decide) (by decide) (rdR_cons (rdRow (Fr.of F.sm) (rdH_so (rdS_lit (Fr.of F.sm) (by decide))) (rdS_lit (Fr.of F.sm) (by decide))) (rdR_cons (rdRow (Fr.of F.sm) rdH_no (rdS_lit (Fr.of F.sm) (by decide))) rdR_nil)) fun H2 p vs F => ?_
  have F := F.fat
  refine q_put (X := "ITEMS") (rows := [(some ["}"], []), (none, ["ITEM", "ITEMS"])]) F rfl (by decide) (by decide) (rdR_cons (rdRow (Fr.of F.sm) (rdH_so (rdS_lit (Fr.of F.sm) (by decide))) (rdS_lit (Fr.of F.sm) (by decide))) (rdR_cons (rdRow (Fr.of F.sm) rdH_no (rdS_lit (Fr.of F.sm) (by decide))) rdR_nil)) fun H2 p vs F => ?_
  have F := F.fat
  refine q_put (X := "ITEM") (rows := [(some ["in", "out", "wire"], ["ANY", "NAME", "bits", "NUM", ";"])]) F rfl (by decide) (by decide) (rdR_cons (rdRow (Fr.of F.sm) (rdH_so (rdS_lit (Fr.of F.sm) (by decide))) (rdS_lit (Fr.of F.sm) (by decide))) rdR_nil) fun H2 p vs F => ?_
  refine q_app (r := (some ["reg"], ["reg", "NAME", "bits", "NUM", "=", "NUM", "<-", "E", ";"])) F rfl (by decide) (rdRow F.fr (rdH_so (rdS_lit F.fr (by decide))) (rdS_lit F.fr (by decide))) fun H2 vs F => ?_
  refine q_lit (zs := ["mem", "NAME", "[", "NUM", "]", "bits", "NUM", "[", "E", "]", "<-", "E", "when", "E", ";"]) rfl (by decide) fun pm hpm => ?_
  obtain ⟨F, hVar⟩ := F.with hpm
  generalize upd _ pm _ = H2 at F hVar ⊢
  refine q_app (r := (some ["mem"], ["mem", "NAME", "[", "NUM", "]", "bits", "NUM", "[", "E", "]", "<-", "E", "when", "E", ";"])) F rfl (by decide) (rdRow F.fr (rdH_so (rdS_lit F.fr (by decide))) (rdS_var (i := 1) rfl hVar)) fun H2 vs F => ?_
  refine q_app (r := (some ["for"], ["for", "NAME", "=", "NUM", "to", "NUM", "{", "ITEMS", "}"])) F rfl (by decide) (rdRow F.fr (rdH_so (rdS_lit F.fr (by decide))) (rdS_lit F.fr (by decide))) fun H2 vs F => ?_
  refine q_app (r := (some ["when"], ["when", "NUM", "{", "ITEMS", "}", "ELSE"])) F rfl (by decide) (rdRow F.fr (rdH_so (rdS_lit F.fr (by decide))) (rdS_lit F.fr (by decide))) fun H2 vs F => ?_
  refine q_app (r := (none, ["NAME", "NAMED"])) F rfl (by decide) (rdRow F.fr rdH_no (rdS_lit F.fr (by decide))) fun H2 vs F => ?_
  have F := F.fat
  refine q_put (X := "ELSE") (rows := [(some ["else"], ["else", "{", "ITEM", "ITEMS", "}"]), (none, [])]) F rfl (by decide) (by decide) (rdR_cons (rdRow (Fr.of F.sm) (rdH_so (rdS_lit (Fr.of F.sm) (by decide))) (rdS_lit (Fr.of F.sm) (by decide))) (rdR_cons (rdRow (Fr.of F.sm) rdH_no (rdS_lit (Fr.of F.sm) (by decide))) rdR_nil)) fun H2 p vs F => ?_
  have F := F.fat
  refine q_put (X := "NAMED") (rows := [(some ["["], ["[", "NUM", "MORENUMS", "]", "=", "E", ";"])]) F rfl (by decide) (by decide) (rdR_cons (rdRow (Fr.of F.sm) (rdH_so (rdS_lit (Fr.of F.sm) (by decide))) (rdS_lit (Fr.of F.sm) (by decide))) rdR_nil) fun H2 p vs F => ?_
  refine q_cat (more := [(some [":"], [":", "NAME", "SIZES", "(", "PORTS", ")", ";"]), (none, ["=", "E", ";"])]) F rfl (by decide) (by decide) (rdR_cons (rdRow F.fr (rdH_so (rdS_lit F.fr (by decide))) (rdS_lit F.fr (by decide))) (rdR_cons (rdRow F.fr rdH_no (rdS_lit F.fr (by decide))) rdR_nil)) fun H2 F => ?_
  refine q_put (X := "PORTS") (rows := [(some [")"], []), (none, ["PORT", "MOREPORTS"])]) F rfl (by decide) (by decide) (rdR_cons (rdRow (Fr.of F.sm) (rdH_so (rdS_lit (Fr.of F.sm) (by decide))) (rdS_lit (Fr.of F.sm) (by decide))) (rdR_cons (rdRow (Fr.of F.sm) rdH_no (rdS_lit (Fr.of F.sm) (by decide))) rdR_nil)) fun H2 p vs F => ?_
  have F := F.fat
  refine q_put (X := "MOREPORTS") (rows := [(some [","], [",", "PORT", "MOREPORTS"]), (none, [])]) F rfl (by decide) (by decide) (rdR_cons (rdRow (Fr.of F.sm) (rdH_so (rdS_lit (Fr.of F.sm) (by decide))) (rdS_lit (Fr.of F.sm) (by decide))) (rdR_cons (rdRow (Fr.of F.sm) rdH_no (rdS_lit (Fr.of F.sm) (by decide))) rdR_nil)) fun H2 p vs F => ?_
  have F := F.fat
  refine q_put (X := "PORT") (rows := [(none, ["NAME", "=", "E"])]) F rfl (by decide) (by decide) (rdR_cons (rdRow (Fr.of F.sm) rdH_no (rdS_lit (Fr.of F.sm) (by decide))) rdR_nil) fun H2 p vs F => ?_
  have F := F.fat
  refine q_put (X := "NUM") (rows := [(none, ["NUMPART", "NUMTAIL"])]) F rfl (by decide) (by decide) (rdR_cons (rdRow (Fr.of F.sm) rdH_no (rdS_lit (Fr.of F.sm) (by decide))) rdR_nil) fun H2 p vs F => ?_
  have F := F.fat
  refine q_put (X := "NUMTAIL") (rows := [(some ["*", "/", "+", "-", "<", "=="], ["ANY", "NUMPART", "NUMTAIL"]), (none, [])]) F rfl (by decide) (by decide) (rdR_cons (rdRow (Fr.of F.sm) (rdH_so (rdS_lit (Fr.of F.sm) (by decide))) (rdS_lit (Fr.of F.sm) (by decide))) (rdR_cons (rdRow (Fr.of F.sm) rdH_no (rdS_lit (Fr.of F.sm) (by decide))) rdR_nil)) fun H2 p vs F => ?_
  have F := F.fat
  refine q_put (X := "E") (rows := [(none, ["PART", "TAIL"])]) F rfl (by decide) (by decide) (rdR_cons (rdRow (Fr.of F.sm) rdH_no (rdS_lit (Fr.of F.sm) (by decide))) rdR_nil) fun H2 p vs F => ?_
  have F := F.fat
  refine q_lit (zs := ["!", "*", "+", "-", "#", "<<", ">>", "<", "==", "&", "^", "|"]) rfl (by decide) fun pm hpm => ?_
  obtain ⟨F, hVar⟩ := F.with hpm
  generalize upd _ pm _ = H2 at F hVar ⊢
  refine q_put (X := "TAIL") (rows := [(some ["!", "*", "+", "-", "#", "<<", ">>", "<", "==", "&", "^", "|"], ["ANY", "PART", "TAIL"]), (some ["?"], ["?", "E", ":", "E"]), (none, [])]) F rfl (by decide) (by decide) (rdR_cons (rdRow (Fr.of F.sm) (rdH_so (rdS_var (i := 2) rfl hVar)) (rdS_lit (Fr.of F.sm) (by decide))) (rdR_cons (rdRow (Fr.of F.sm) (rdH_so (rdS_lit (Fr.of F.sm) (by decide))) (rdS_lit (Fr.of F.sm) (by decide))) (rdR_cons (rdRow (Fr.of F.sm) rdH_no (rdS_lit (Fr.of F.sm) (by decide))) rdR_nil))) fun H2 p vs F => ?_
  have F := F.fat
  refine q_put (X := "PART") (rows := [(some ["~", "&", "|", "^"], ["ANY", "PART"]), (none, ["ATOM", "CUTS"])]) F rfl (by decide) (by decide) (rdR_cons (rdRow (Fr.of F.sm) (rdH_so (rdS_lit (Fr.of F.sm) (by decide))) (rdS_lit (Fr.of F.sm) (by decide))) (rdR_cons (rdRow (Fr.of F.sm) rdH_no (rdS_lit (Fr.of F.sm) (by decide))) rdR_nil)) fun H2 p vs F => ?_
  have F := F.fat
  refine q_put (X := "CUTS") (rows := [(some ["{"], ["{", "NUM", ":", "NUM", "}", "CUTS"]), (none, [])]) F rfl (by decide) (by decide) (rdR_cons (rdRow (Fr.of F.sm) (rdH_so (rdS_lit (Fr.of F.sm) (by decide))) (rdS_lit (Fr.of F.sm) (by decide))) (rdR_cons (rdRow (Fr.of F.sm) rdH_no (rdS_lit (Fr.of F.sm) (by decide))) rdR_nil)) fun H2 p vs F => ?_
  have F := F.fat
  refine q_put (X := "ATOM") (rows := [(some ["("], ["(", "E", ")"]), (some ["bits"], ["bits", "(", "NUM", ",", "NUM", ")"])]) F rfl (by decide) (by decide) (rdR_cons (rdRow (Fr.of F.sm) (rdH_so (rdS_lit (Fr.of F.sm) (by decide))) (rdS_lit (Fr.of F.sm) (by decide))) (rdR_cons (rdRow (Fr.of F.sm) (rdH_so (rdS_lit (Fr.of F.sm) (by decide))) (rdS_lit (Fr.of F.sm) (by decide))) rdR_nil)) fun H2 p vs F => ?_
  refine q_app (r := (none, ["NAME", "AT", "BEHIND"])) F rfl (by decide) (rdRow F.fr rdH_no (rdS_lit F.fr (by decide))) fun H2 vs F => ?_
  have F := F.fat
  refine q_put (X := "AT") (rows := [(some ["["], ["[", "NUM", "MORENUMS", "]"]), (none, [])]) F rfl (by decide) (by decide) (rdR_cons (rdRow (Fr.of F.sm) (rdH_so (rdS_lit (Fr.of F.sm) (by decide))) (rdS_lit (Fr.of F.sm) (by decide))) (rdR_cons (rdRow (Fr.of F.sm) rdH_no (rdS_lit (Fr.of F.sm) (by decide))) rdR_nil)) fun H2 p vs F => ?_
  have F := F.fat
  refine q_put (X := "BEHIND") (rows := [(some ["."], [".", "NAME"]), (some ["@"], ["@", "ATOM"]), (none, [])]) F rfl (by decide) (by decide) (rdR_cons (rdRow (Fr.of F.sm) (rdH_so (rdS_lit (Fr.of F.sm) (by decide))) (rdS_lit (Fr.of F.sm) (by decide))) (rdR_cons (rdRow (Fr.of F.sm) (rdH_so (rdS_lit (Fr.of F.sm) (by decide))) (rdS_lit (Fr.of F.sm) (by decide))) (rdR_cons (rdRow (Fr.of F.sm) rdH_no (rdS_lit (Fr.of F.sm) (by decide))) rdR_nil))) fun H2 p vs F => ?_
  have F := F.fat
  refine q_two (X := "EWHOLE") (Y := "NUMWHOLE") (rows := [(none, ["E", "END"])]) (more := [(none, ["NUM", "END"])]) F rfl (by decide) (by decide +kernel) (by decide) (by decide) (rdR_cons (rdRow (Fr.of F.sm) rdH_no (rdS_lit (Fr.of F.sm) (by decide))) rdR_nil) (rdR_cons (rdRow (Fr.of F.sm) rdH_no (rdS_lit (Fr.of F.sm) (by decide))) rdR_nil) fun H2 F => ?_
  obtain ⟨kvs, h1, _, h3⟩ := F.ex
  refine ⟨_, rfl, q d H2 F.sm F.fd ⟨kvs, h1, fun z => ?_⟩⟩
  exact RO.look (h3 z) (by decide +kernel)
end
end K04
end

section
set_option Elab.async false
set_option maxRecDepth 100000
set_option maxHeartbeats 4000000
set_option pp.maxSteps 2000
/-! K19: the law's walk over the forms. -/
namespace K04
open PySem L2 PyProof.Rows
/-! ### how long a stack grows -/
def fsum (f : Str → Nat) (st : List Str) : Nat := (st.map f).sum
theorem fsum_app (f : Str → Nat) (a b : List Str) : fsum f (a ++ b) = fsum f a + fsum f b := by simp [fsum]
theorem fsum_cons (f : Str → Nat) (a : Str) (b : List Str) : fsum f (a :: b) = f a + fsum f b := by simp [fsum]
def htop (h : Str → Nat) (st : List Str) : Nat := match st with
  | [] => 0
  | s :: _ => h s
/-- a row pays for what it puts, with what its form holds -/
def payOk (f h : Str → Nat) (D : Nat) : Bool := tab.all fun p => p.2.all fun r => match r.2 with
  | [] => decide (D ≤ f p.1 + h p.1)
  | s :: _ => decide (fsum f r.2 + h s ≤ f p.1 + h p.1)
theorem htop_le {h : Str → Nat} {D : Nat} (hD : ∀ s, h s ≤ D) (st : List Str) : htop h st ≤ D := by
  cases st with
  | nil => exact Nat.zero_le _
  | cons s r => exact hD s
theorem pay_row {f h : Str → Nat} {D : Nat} (ok : payOk f h D = true) (hD : ∀ s, h s ≤ D) {A : Str} {rows : List Row} {r : Row} (hr : rowsOf A = some rows) (hm : r ∈ rows) (st : List Str) :
    fsum f (r.2 ++ st) + htop h (r.2 ++ st) ≤ fsum f (A :: st) + h A := by
  have q := List.all_eq_true.mp (List.all_eq_true.mp ok _ (lookup_mem hr)) r hm
  obtain ⟨r1, r2⟩ := r
  rw [fsum_app, fsum_cons]
  cases r2 with
  | nil =>
    have q' : D ≤ f A + h A := of_decide_eq_true q
    have z := htop_le hD st
    show fsum f [] + fsum f st + htop h st ≤ _
    have e0 : fsum f [] = 0 := rfl
    omega
  | cons s b =>
    have q' : fsum f (s :: b) + h s ≤ f A + h A := of_decide_eq_true q
    show fsum f (s :: b) + fsum f st + h s ≤ _
    omega
def lhT : List (Str × Nat) := [("DESIGN", 9), ("MODULES", 15), ("MODULE", 5), ("SIZENAMES", 15), ("MORENAMES", 15), ("SIZES", 15), ("MORENUMS", 15), ("ITEMS", 15), ("ITEM", 14), ("ELSE", 15), ("NAMED", 6), ("PORTS", 15), ("MOREPORTS", 15), ("PORT", 2), ("NUM", 3), ("NUMTAIL", 15), ("E", 7), ("TAIL", 15), ("PART", 6), ("CUTS", 15), ("ATOM", 5), ("AT", 15), ("BEHIND", 15), ("EWHOLE", 8), ("NUMWHOLE", 4), ("END", 15), ("NUMPART", 2)]
def tblN (t : List (Str × Nat)) (z : Str) : Nat := (t.lookup z).getD 0
theorem tblN_le {t : List (Str × Nat)} {D : Nat} (h : (t.all fun p => decide (p.2 ≤ D)) = true) (s : Str) : tblN t s ≤ D := by
  unfold tblN
  cases q : t.lookup s with
  | none => exact Nat.zero_le _
  | some v => exact of_decide_eq_true (List.all_eq_true.mp h _ (lookup_mem q))
theorem lh_pay : payOk (fun _ => 1) (tblN lhT) 15 = true := by decide +kernel
theorem lh_le (s : Str) : tblN lhT s ≤ 15 := tblN_le (by decide +kernel) s
def lenM (t : List Nat) (st : List Str) (l : Lx) : Nat := fsum (fun _ => 1) st + htop (tblN lhT) st + 15 * rem t l
theorem fsum_len (st : List Str) : fsum (fun _ => 1) st = st.length := by
  induction st with
  | nil => rfl
  | cons a r ih => rw [fsum_cons, ih, List.length_cons]; omega
theorem step_len {t : List Nat} {st st' : List Str} {l l' : Lx} (hl : LxOk t l) (h : step t st l = .go st' l') : lenM t st' l' ≤ lenM t st l := by
  cases st with
  | nil => cases h
  | cons s st =>
    have h : step1 t s st l = .go st' l' := h
    unfold step1 at h
    split at h
    · rename_i rows hr
      injection h with q1 q2
      subst q1 q2
      obtain ⟨r, hm, e, _⟩ := row_mem (x := S l.tx) hr
      rw [e]
      have z := pay_row lh_pay lh_le hr hm st
      unfold lenM
      show _ ≤ fsum _ (s :: st) + tblN lhT s + _
      omega
    · split at h
      · rename_i hc
        injection h with q1 q2
        subst q1 q2
        unfold lenM
        show fsum _ ("(" :: "NUM" :: ")" :: st) + tblN lhT "(" + _ ≤ fsum _ (s :: st) + tblN lhT s + _
        rw [fsum_cons, fsum_cons, fsum_cons, fsum_cons, hc.1]
        have a : tblN lhT "(" = 0 := by decide +kernel
        have b : tblN lhT "NUMPART" = 2 := by decide +kernel
        omega
      · split at h
        · rename_i hf
          injection h with q1 q2
          subst q1 q2
          have z1 := htop_le lh_le st
          unfold lenM
          show fsum _ st + htop (tblN lhT) st + _ ≤ fsum _ (s :: st) + tblN lhT s + _
          rw [fsum_cons]
          by_cases hs : s = ("END" : Str)
          · have e4 : tblN lhT s = 15 := by rw [hs]; decide +kernel
            have z2 := nx_le hl
            omega
          · have z2 := nx_lt hl (fits_real hf hs hl.rl)
            omega
        · cases h
/-! ### ANY stands on top alone, and where something is to be taken -/
def anyOk : Bool := tab.all fun p => p.2.all fun r => !(r.2.tail.contains "ANY") && (decide (r.2.head? ≠ some "ANY") || (match r.1 with | none => false | some hs => hs.all fun z => z != S []))
theorem any_ok : anyOk = true := by decide +kernel
def AnyS (l : Lx) (st : List Str) : Prop := match st with
  | [] => True
  | s :: r => (s = ("ANY" : Str) → l.tx ≠ []) ∧ ("ANY" : Str) ∉ r
theorem AnyS.sub {l l' : Lx} {s : Str} {st : List Str} (h : AnyS l (s :: st)) : AnyS l' st := by
  obtain ⟨_, h⟩ := h
  cases st with
  | nil => exact True.intro
  | cons a r => exact ⟨fun e => absurd (e ▸ List.mem_cons_self) h, fun m => h (List.mem_cons_of_mem _ m)⟩
theorem AnyS.row {l : Lx} {A : Str} {st : List Str} {rows : List Row} (h : AnyS l (A :: st)) (hr : rowsOf A = some rows) : AnyS l (pickRow rows (S l.tx) ++ st) := by
  obtain ⟨r, hm, e, hf⟩ := row_mem (x := S l.tx) hr
  have q := List.all_eq_true.mp (List.all_eq_true.mp any_ok _ (lookup_mem hr)) r hm
  rw [Bool.and_eq_true] at q
  rw [e]
  obtain ⟨r1, r2⟩ := r
  cases r2 with
  | nil => exact h.sub
  | cons s b =>
    refine ⟨fun es => ?_, fun m => ?_⟩
    · subst es
      have q2 := q.2
      cases r1 with
      | none => simp at q2
      | some hs =>
        have q3 : (hs.all fun z => z != S []) = true := by simpa using q2
        have hin : hs.contains (S l.tx) = true := hf
        exact sg_ne (List.contains_iff_mem.mp hin) q3
    · rcases List.mem_append.mp m with m | m
      · have q1 := q.1
        have c : (b.contains ("ANY" : Str)) = true := List.contains_iff_mem.mpr m
        simp only [List.tail_cons, c] at q1
        cases q1
      · exact h.2 m
theorem step_any {t : List Nat} {st st' : List Str} {l l' : Lx} (h : AnyS l st) (e : step t st l = .go st' l') : AnyS l' st' := by
  cases st with
  | nil => cases e
  | cons s st =>
    have e : step1 t s st l = .go st' l' := e
    unfold step1 at e
    split at e
    · rename_i rows hr
      injection e with q1 q2
      subst q1 q2
      exact h.row hr
    · split at e
      · rename_i hc
        injection e with q1 q2
        subst q1 q2
        refine ⟨fun e => absurd e (by decide +kernel), fun m => ?_⟩
        rcases List.mem_cons.mp m with m | m
        · exact absurd m (by decide +kernel)
        rcases List.mem_cons.mp m with m | m
        · exact absurd m (by decide +kernel)
        · exact h.2 m
      · split at e
        · injection e with q1 q2
          subst q1 q2
          exact h.sub
        · cases e
section
variable {P : Program} {w : World} {K : PySem.W.Frag} {mg : Str → Option Value} {base : Heap}
theorem sc_lw_fits : FnScope ["_law_lexeme_here", "_law_top"] ["_law_lexeme_here", "_law_top"] (defScope (topS 62)) := ⟨rfl, rfl, rfl, by decide +kernel, rfl, by decide +kernel, by decide +kernel⟩
def spFits : Sp := fun vs H Q _ => ∃ (q : Addr) (l : Lx) (s : Str), vs = [.ref q, .str s] ∧ H q = some (.lst (LawLex l)) ∧ (s = ("ANY" : Str) → l.tx ≠ []) ∧ ∀ H', Same H H' → Q (.bl (fitsB l s)) H'
theorem fits_3 (l : Lx) (s : Str) (h1 : s ≠ ("NAME" : Str)) (h2 : s ≠ ("NUMERAL" : Str)) (h3 : s ≠ ("END" : Str)) :
    fitsB l s = if s = ("NUMPART" : Str) then l.kd == .name || l.kd == .numeral else if s = ("ANY" : Str) then !l.tx.isEmpty else (l.kd == .sign || l.kd == .keyword) && decide (S l.tx = s) := by
  unfold fitsB
  rw [if_neg h1, if_neg h2, if_neg h3]
theorem kdL_is (l : Lx) : decide (V.str (kdL l.kd) = V.str ("name" : Str)) = (l.kd == .name) ∧ decide (V.str (kdL l.kd) = V.str ("numeral" : Str)) = (l.kd == .numeral) ∧ decide (V.str (kdL l.kd) = V.str ("END" : Str)) = (l.kd == .fin) := by
  cases l.kd <;> decide +kernel
theorem kdL_in (l : Lx) : decide (kdL l.kd ∈ (["name", "numeral"] : List Str)) = (l.kd == .name || l.kd == .numeral) ∧ decide (kdL l.kd ∈ (["sign", "keyword"] : List Str)) = (l.kd == .sign || l.kd == .keyword) := by
  cases l.kd <;> decide +kernel
theorem ok_lw_fits (Z : LwTx K mg) : FnOk P w K mg base CX0 1 Z.lw_fits.f Z.lw_fits.fd ["_law_lexeme_here", "_law_top"] spFits := by
  refine Z.lw_fits.F.ok sc_lw_fits (fun vs H Q E h => ?_) (fun cdv A outer s H vs Q E hr h => ?_)
  · obtain ⟨q, l, s, rfl, _⟩ := h
    rfl
  obtain ⟨q, l, s, rfl, hq, hany, k⟩ := h
  have nd := sc_lw_fits.nd
  refine ⟨_, (pss_cons (ps_if (pt_cmpR op_in_seq (pv 1) (pe_lst (pa_cons pe_str (pa_cons pe_str (pa_cons pe_str pa_nil)))) rfl) (pss_one (ps_ret (pe_cmpR op_eq (pe_ix ix_list (pv 0) pe_int (fun _ _ => rfl)) (pe_dget (hu_of hr) (pe_disp (pps_cons pe_str pe_str (pps_cons pe_str pe_str (pps_cons pe_str pe_str pps_nil))) (by rfl) (by rfl) (fun z => by cases z) (by decide)) (pv 1) (fun _ _ => rfl)) (nomark _)))) pss_nil)
    (pss_cons (ps_if (pt_cmpR op_eq (pv 1) pe_str (nomark _)) (pss_one (ps_ret (pe_cmpR op_in_seq (pe_ix ix_list (pv 0) pe_int (fun _ _ => rfl)) (pe_lst (pa_cons pe_str (pa_cons pe_str pa_nil))) rfl))) pss_nil)
    (pss_one (ps_ret (pe_or (pe_cmpR op_eq (pv 1) pe_str (nomark _)) (pe_one (pe_and (pe_cmpR op_in_seq (pe_ix ix_list (pv 0) pe_int (fun _ _ => rfl)) (pe_lst (pa_cons pe_str (pa_cons pe_str pa_nil))) rfl) (pe_one (pe_cmpR op_eq (pe_ix ix_list (pv 0) pe_int (fun _ _ => rfl)) (pv 1) (nomark _)))))))))), ?_⟩
  refine ⟨_, rfl, fit3 (by show 3 ≤ 10; decide), fun u hu => ⟨u, _, rfl, .inl (SqL.of upd_same), rfl, rfl, _, rfl, ?_⟩⟩
  have s1 := same_up hu (.lst [.str "NAME", .str "NUMERAL", .str "END"])
  have e1 : inV (.str s) [.str "NAME", .str "NUMERAL", .str "END"] = decide (s ∈ (["NAME", "NUMERAL", "END"] : List Str)) := inv_one s ["NAME", "NUMERAL", "END"]
  generalize upd H u (.lst [.str "NAME", .str "NUMERAL", .str "END"]) = H1 at s1 ⊢
  have hq1 := s1 _ _ hq
  by_cases c1 : s ∈ (["NAME", "NUMERAL", "END"] : List Str)
  · refine iteT_of (b := inV (.str s) [.str "NAME", .str "NUMERAL", .str "END"]) (e1.trans (decide_eq_true c1)) ?_
    refine ⟨_, rfl, q, _, 0, _, rfl, rfl, SqL.of hq1, atI_nat (j := 0) rfl, fun u2 hu2 => ⟨upd_same, [(.inr "NAME", .str "name"), (.inr "NUMERAL", .str "numeral"), (.inr "END", .str "END")], rfl, (by show 3 ≤ 15; decide), ?_⟩⟩
    rw [upd_twice]
    have s2 := s1.trans (same_up hu2 (.dK (mergeK [] [((.inr "NAME" : Key), V.str "name"), (.inr "NUMERAL", .str "numeral"), (.inr "END", .str "END")])))
    have dg := DGet.k (k := .inr s) (upd_same (H := H1) (a := u2) (o := .dK (mergeK [] [((.inr "NAME" : Key), V.str "name"), (.inr "NUMERAL", .str "numeral"), (.inr "END", .str "END")])))
    have z := k _ s2
    simp only [List.mem_cons, List.not_mem_nil, or_false] at c1
    rcases c1 with rfl | rfl | rfl
    · exact ⟨_, rfl, u2, .str "name", rfl, dg, rfl, by rw [(kdL_is l).1]; exact z⟩
    · exact ⟨_, rfl, u2, .str "numeral", rfl, dg, rfl, by rw [(kdL_is l).2.1]; exact z⟩
    · exact ⟨_, rfl, u2, .str "END", rfl, dg, rfl, by rw [(kdL_is l).2.2]; exact z⟩
  refine iteF_of (b := inV (.str s) [.str "NAME", .str "NUMERAL", .str "END"]) (e1.trans (decide_eq_false c1)) ?_
  have ef := fits_3 l s (fun e => c1 (by rw [e]; decide +kernel)) (fun e => c1 (by rw [e]; decide +kernel)) (fun e => c1 (by rw [e]; decide +kernel))
  refine ⟨_, rfl, rfl, _, rfl, ?_⟩
  rw [eqS]
  by_cases c2 : s = ("NUMPART" : Str)
  · rw [decide_eq_true c2]
    rw [if_pos c2] at ef
    refine iteT ⟨_, rfl, q, _, 0, _, rfl, rfl, SqL.of hq1, atI_nat (j := 0) rfl, fit3 (by show 2 ≤ 10; decide), fun u2 hu2 => ⟨u2, _, rfl, .inl (SqL.of upd_same), rfl, rfl, ?_⟩⟩
    have z := k _ (s1.trans (same_up hu2 (.lst [.str "name", .str "numeral"])))
    rw [ef, ← (kdL_in l).1] at z
    have e3 : inV (.str (kdL l.kd)) [.str "name", .str "numeral"] = decide (kdL l.kd ∈ (["name", "numeral"] : List Str)) := inv_one _ ["name", "numeral"]
    show Q (.bl (inV (.str (kdL l.kd)) [.str "name", .str "numeral"])) _
    rw [e3]
    exact z
  rw [decide_eq_false c2]
  rw [if_neg c2] at ef
  refine iteF ⟨_, rfl, rfl, _, rfl, ?_⟩
  rw [eqS]
  by_cases c3 : s = ("ANY" : Str)
  · rw [decide_eq_true c3]
    rw [if_pos c3] at ef
    have z := k _ s1
    have ne := hany c3
    have e4 : (!l.tx.isEmpty) = true := by cases q : l.tx with
      | nil => exact absurd q ne
      | cons _ _ => rfl
    rw [ef, e4] at z
    exact z
  rw [decide_eq_false c3]
  rw [if_neg c3] at ef
  refine ⟨_, rfl, q, _, 0, _, rfl, rfl, SqL.of hq1, atI_nat (j := 0) rfl, fit3 (by show 2 ≤ 10; decide), fun u2 hu2 => ⟨u2, _, rfl, .inl (SqL.of upd_same), rfl, rfl, _, rfl, ?_⟩⟩
  have s2 := same_up hu2 (.lst [.str "sign", .str "keyword"])
  have z := k _ (s1.trans s2)
  rw [ef, ← (kdL_in l).2] at z
  have e3 : inV (.str (kdL l.kd)) [.str "sign", .str "keyword"] = decide (kdL l.kd ∈ (["sign", "keyword"] : List Str)) := inv_one _ ["sign", "keyword"]
  by_cases c4 : kdL l.kd ∈ (["sign", "keyword"] : List Str)
  · refine iteT_of (b := inV (.str (kdL l.kd)) [.str "sign", .str "keyword"]) (e3.trans (decide_eq_true c4)) ?_
    refine ⟨_, rfl, q, _, 1, _, rfl, rfl, SqL.of (s2 _ _ hq1), atI_nat (j := 1) rfl, _, rfl, rfl, ?_⟩
    rw [eqS]
    rw [decide_eq_true c4, Bool.true_and] at z
    exact z
  · refine iteF_of (b := inV (.str (kdL l.kd)) [.str "sign", .str "keyword"]) (e3.trans (decide_eq_false c4)) ?_
    rw [decide_eq_false c4, Bool.false_and] at z
    exact z
end
end K04
end

section
set_option Elab.async false
set_option maxRecDepth 100000
set_option maxHeartbeats 4000000
set_option pp.maxSteps 2000
/-! K20: the law's walk over the forms, in the heap. -/
namespace K04
open PySem L2 PyProof.Rows
theorem paired_get {α β : Type} {F : α → β → Prop} : ∀ {l : List α} {m : List β} {i : Nat} {x : α}, Paired F l m → l[i]? = some x → ∃ y, m[i]? = some y ∧ F x y
  | _, _, 0, _, .cons h _, e => ⟨_, rfl, (Option.some.inj e) ▸ h⟩
  | _, _, i + 1, _, .cons _ t, e => paired_get (i := i) t e
theorem out_go {t : List Nat} {n : Nat} {st : List Str} {l : Lx} {r : Option Nat} (h : ∃ b, out t n st l = some (r, b)) : ∃ n', n = n' + 1 ∧ ((step t st l = .fin ∧ r = none) ∨ (∃ p, step t st l = .fail p ∧ r = some p) ∨ ∃ st' l', step t st l = .go st' l' ∧ ∃ b, out t n' st' l' = some (r, b)) := by
  obtain ⟨b, h⟩ := h
  cases n with
  | zero => cases h
  | succ n =>
    refine ⟨n, rfl, ?_⟩
    unfold out at h
    cases e : step t st l with
    | fin =>
      rw [e] at h
      simp only [Option.some.injEq, Prod.mk.injEq] at h
      exact .inl ⟨rfl, h.1.symm⟩
    | fail p =>
      rw [e] at h
      simp only [Option.some.injEq, Prod.mk.injEq] at h
      exact .inr (.inl ⟨p, rfl, h.1.symm⟩)
    | go st' l' =>
      rw [e] at h
      dsimp only at h
      cases q : out t n st' l' with
      | none => rw [q] at h; cases h
      | some y =>
        rw [q] at h
        obtain ⟨y1, y2⟩ := y
        simp only [Option.map_some, Option.some.injEq, Prod.mk.injEq] at h
        exact .inr (.inr ⟨st', l', rfl, y2, by rw [q, h.1]⟩)
/-- the stack as it stands in the heap -/
def stkV (st : List Str) : List V := st.reverse.map V.str
theorem stkV_cons (s : Str) (r : List Str) : stkV (s :: r) = stkV r ++ [.str s] := by
  unfold stkV
  rw [List.reverse_cons, List.map_append]
  rfl
theorem stkV_app (b r : List Str) : stkV (b ++ r) = stkV r ++ stkV b := by
  unfold stkV
  rw [List.reverse_append, List.map_append]
theorem stkV_len (st : List Str) : (stkV st).length = st.length := by simp [stkV]
section
variable {P : Program} {w : World} {K : PySem.W.Frag} {mg : Str → Option Value} {base : Heap}
theorem sc_lw_wrong_place : FnScope ["_law_rules", "_law_text", "_law_form", "_law_stack", "_law_lexeme_here", "_law_top", "_law_fits_here", "_law_row"] ["_law_rules", "_law_text", "_law_form"] (defScope (topS 63)) := ⟨rfl, rfl, rfl, by decide +kernel, rfl, by decide +kernel, by decide +kernel⟩
def wrV (r : Option Nat) : List V := match r with
  | none => []
  | some p => [.int (p : Nat)]
def spWrong : Sp := fun vs H Q _ => ∃ (G : Addr → Prop) (d : Addr) (t : List Nat) (form : Str) (r : Option Nat), vs = [.ref d, .str (S t), .str form] ∧ t.length ≤ 1000000 ∧ RulesAt G H d ∧ form ≠ ("ANY" : Str) ∧
  (∃ n b, out t n [form] (lexAt t 0) = some (r, b)) ∧ ∀ p H', Same H H' → H p = none → H' p = some (.lst (wrV r)) → Q (.ref p) H'
/-- what the comprehension makes: the bodies of the rows that fit -/
theorem row_test {K : PySem.W.Frag} {G : Addr → Prop} {H : Hp} {v : V} {row : Row} {l : Lx} {q : Addr} {σ : L2.St} {Q : Bool → Hp → Prop} (hr : RowAt G H v row) (hq : H q = some (.lst (LawLex l))) (h4 : σ[4]? = some (some (.ref q))) (h7 : σ[7]? = some (some v))
    (k : Q (rowFits (S l.tx) row) H) : tOr (tTest (tOp (fun x y H Q => y = V.non ∧ Q (V.bl (decide (x = V.non))) H) (tOp (rIxL K) (tVar 7) (tC (.int 0))) (tC .non))) (tTest (tOp (rIn K false) (tOp (rIxL K) (tVar 4) (tC (.int 1))) (tOp (rIxL K) (tVar 7) (tC (.int 0))))) σ H Q := by
  obtain ⟨p, a, b, rfl, e, _, ha, _⟩ := hr
  refine ⟨_, h7, p, _, 0, a, rfl, rfl, SqL.of e, atI_nat (j := 0) rfl, rfl, _, rfl, ?_⟩
  obtain ⟨hd, body⟩ := row
  cases hd with
  | none =>
    obtain rfl : a = .non := ha
    exact iteT k
  | some zs =>
    obtain ⟨pz, rfl, ez, _⟩ := ha
    refine iteF_of (b := decide (V.ref pz = V.non)) (decide_eq_false (fun z => nomatch z)) ?_
    refine ⟨_, h4, q, _, 1, _, rfl, rfl, SqL.of hq, atI_nat (j := 1) rfl, _, h7, p, _, 0, _, rfl, rfl, SqL.of e, atI_nat (j := 0) rfl, pz, _, rfl, .inl (SqL.of ez), rfl, flat_strs _, _, rfl, ?_⟩
    rw [inV_strs]
    have ef : rowFits (S l.tx) (some zs, body) = decide (S l.tx ∈ zs) := by
      unfold rowFits
      by_cases c : S l.tx ∈ zs
      · rw [decide_eq_true c]
        exact List.contains_iff_mem.mpr c
      · rw [decide_eq_false c]
        exact Bool.eq_false_iff.mpr fun z => c (List.contains_iff_mem.mp z)
    rw [ef] at k
    exact k
theorem rows_6 : (tab.all fun p => decide (p.2.length ≤ 6)) = true := by decide +kernel
theorem ok_lw_wrong_place (Z : LwTx K mg) : FnOk P w K mg base CX0 4 Z.lw_wrong_place.f Z.lw_wrong_place.fd ["_law_rules", "_law_text", "_law_form"] spWrong := by
  have G_lw_lexeme := ok_lw_lexeme (w := w) (P := P) (base := base) Z
  have G_lw_fits := ok_lw_fits (w := w) (P := P) (base := base) Z
  refine Z.lw_wrong_place.F.ok sc_lw_wrong_place (fun vs H Q E h => ?_) (fun cdv A outer s H vs Q E hr h => ?_)
  · obtain ⟨_, d, t, form, r, rfl, _⟩ := h
    rfl
  obtain ⟨G, d, t, form, r, rfl, hl, hR, hform, ⟨n0, b0, ho⟩, k⟩ := h
  have nd := sc_lw_wrong_place.nd
  have lm0 : lenM t [form] (lexAt t 0) ≤ 15000050 := by
    unfold lenM rem
    have z := lh_le form
    show 1 + 0 + tblN lhT form + _ ≤ _
    omega
  have room : ∀ {st : List Str} {l : Lx}, lenM t st l ≤ 15000050 → st.length ≤ sizeLine := fun {st l} h => by
    unfold lenM at h
    rw [fsum_len] at h
    exact Nat.le_trans (show st.length ≤ 15000050 by omega) (by decide)
  refine ⟨_, (pss_cons (ps_asg (pe_tup (pa_cons (pe_lst (pa_cons (pv 2) pa_nil)) (pa_cons (pe_call G_lw_lexeme (hr.mono (by omega)) rfl Z.lw_lexeme.g Z.lw_lexeme.F.kp Z.lw_lexeme.b .nil pass0 (pa_cons (pv 1) (pa_cons pe_int pa_nil))) pa_nil))) (pg_tup (by rfl) (pgs_cons (pg_name (i := 3) nd rfl (.inl rfl)) (pgs_cons (pg_name (i := 4) nd rfl (.inr rfl)) pgs_nil))))
    (pss_cons (ps_while PassesOwn.never (pt_cmpR (op_neNil hr.units0) (pv 3) (pe_lst pa_nil) (nomark _)) (pss_cons (ps_set (i := 5) nd rfl (.inl rfl) (pe_bm0 PySem.F.plainAttrs_list PySem.F.slot_list_pop PySem.F.type_list_pop mt_pop (pv 3)))
    (pss_one (ps_if (pt_cmp (pc_din (hu_of hr) (pv 5) (pv 0))) (pss_cons (ps_setLc (i := 6) (own := [("_law_row", 7)]) (by rfl) nd rfl rfl (sw_true rfl rfl rfl (by decide +kernel)) (pi_list (pe_dget (hu_of hr) (pv 0) (pv 5) (fun _ _ => rfl))) (blkOk_by (own := [("_law_row", 7)]) (N := ["_law_rules", "_law_text", "_law_form", "_law_stack", "_law_lexeme_here", "_law_top", "_law_fits_here", "_law_row"]) (sc := defScope (topS 63)) (by decide +kernel))
      (fun _ _ _ _ _ => pg_name (i := 7) nd rfl (Or.inl rfl)) (fun _ _ _ _ _ => pts_one (PW.pt (pw_or (pt_cmpR op_isN (pe_ix (r := rIxL K) ix_list (pv 7) pe_int (fun _ _ => rfl)) pe_non (nomark _)) (pw_or1 (pt_cmpR (r := rIn K false) op_in_seq (pe_ix (r := rIxL K) ix_list (pv 4) pe_int (fun _ _ => rfl)) (pe_ix (r := rIxL K) ix_list (pv 7) pe_int (fun _ _ => rfl)) rfl))))) (fun _ _ _ _ _ => pe_ix (r := rIxL K) ix_list (pv 7) pe_int (fun _ _ => rfl)))
    (pss_one (ps_set (i := 3) nd rfl (.inl rfl) (pe_op op_cat (pv 3) (pe_revL (pe_ix ix_list (pv 6) pe_int (fun _ _ => rfl))))))) (pss_one (ps_if (PW.pt (pw_and (pt_cmpR op_eq (pv 5) pe_str (nomark _)) (pw_and1 (pt_cmpR op_eq (pe_ix ix_list (pv 4) pe_int (fun _ _ => rfl)) pe_str (nomark _))))) (pss_one (ps_set (i := 3) nd rfl (.inl rfl) (pe_op op_cat (pv 3) (pe_lst (pa_cons pe_str (pa_cons pe_str (pa_cons pe_str pa_nil))))))) (pss_one (ps_if (pt_val (pe_call G_lw_fits (hr.mono (by omega)) rfl Z.lw_fits.g Z.lw_fits.F.kp Z.lw_fits.b .nil pass0 (pa_cons (pv 4) (pa_cons (pv 5) pa_nil)))) (pss_one (ps_set (i := 4) nd rfl (.inr rfl) (pe_call G_lw_lexeme (hr.mono (by omega)) rfl Z.lw_lexeme.g Z.lw_lexeme.F.kp Z.lw_lexeme.b .nil pass0 (pa_cons (pv 1) (pa_cons (pe_op op_add (pe_ix ix_list (pv 4) pe_int (fun _ _ => rfl)) (pe_callB call_len_str (by rfl) Z.m_len PySem.boot_len (pa_cons (pe_ix ix_list (pv 4) pe_int (fun _ _ => rfl)) pa_nil))) pa_nil))))) (pss_one (ps_ret (pe_lst (pa_cons (pe_ix ix_list (pv 4) pe_int (fun _ _ => rfl)) pa_nil))))))))))))
    (pss_one (ps_ret (pe_lst pa_nil))))), ?_⟩
  -- stack, lexeme = [form], lexeme(text, 0)
  refine ⟨_, rfl, fit3 (by show 1 ≤ 10; decide), fun a ha => ?_⟩
  refine ⟨_, rfl, t, 0, rfl, hl, Nat.zero_le _, fun q H2 s2 f2 hq => ⟨fit3 (by show 2 ≤ 10; decide), fun u hu => ⟨u, _, rfl, SqT.of upd_same, rfl, _, _, rfl, _, _, rfl, rfl, ?_⟩⟩⟩
  have s1 := same_up ha (.lst [.str form])
  have a2 : H2 a = some (.lst [.str form]) := s2 _ _ upd_same
  have qa : q ≠ a := fun e => by rw [e, upd_same] at f2; cases f2
  refine ⟨fun m σ H' => ∃ st l a q o5 o6, σ = [some (.ref d), some (.str (S t)), some (.str form), some (.ref a), some (.ref q), o5, o6, none] ∧ Same H H' ∧ H a = none ∧ H' a = some (.lst (stkV st)) ∧ H' q = some (.lst (LawLex l)) ∧ q ≠ a ∧ (∃ b, out t m st l = some (r, b)) ∧ LxOk t l ∧ AnyS l st ∧ lenM t st l ≤ 15000050,
    ⟨n0, [form], lexAt t 0, a, q, none, none, rfl, s1.trans (s2.trans (same_up hu _)), ha, same_up hu _ _ _ a2, same_up hu _ _ _ hq, qa, ⟨b0, ho⟩, lexAt_ok _ _, ⟨fun e => absurd e hform, List.not_mem_nil⟩, lm0⟩, ?_⟩
  clear hq a2 s1 s2 f2 hu u ha qa a q lm0 ho
  rintro m σ H3 ⟨st, l, a, q, o5, o6, rfl, s3, fa, ha, hq, qa, ho, ok, hany, lm⟩
  obtain ⟨m', rfl, hgo⟩ := out_go ho
  clear ho
  refine ⟨_, rfl, fit3 (Nat.zero_le _), fun e he => ⟨a, e, _, rfl, rfl, SqL.of (same_up he _ _ _ ha), SqL.of upd_same, _, rfl, ?_⟩⟩
  have se := same_up he (.lst [])
  have s3 := s3.trans se
  have ha := se _ _ ha
  have hq := se _ _ hq
  clear se
  generalize upd H3 e (.lst []) = H4 at s3 ha hq ⊢
  cases st with
  | nil =>
    refine iteF ?_
    rcases hgo with ⟨_, hr0⟩ | ⟨p, e1, _⟩ | ⟨st', l', e1, _⟩
    · subst hr0
      exact ⟨fit3 (Nat.zero_le _), fun p hp => k p _ (s3.trans (same_up hp _)) (sm_none s3 hp) upd_same⟩
    · cases e1
    · cases e1
  | cons x st =>
    refine iteT_of (b := !(stkV (x :: st)).isEmpty) (by rw [stkV_cons]; cases stkV st <;> rfl) ?_
    refine ⟨fun σ' H'' => ∃ m'', m'' < m' + 1 ∧ ∃ st l a q o5 o6, σ' = [some (.ref d), some (.str (S t)), some (.str form), some (.ref a), some (.ref q), o5, o6, none] ∧ Same H H'' ∧ H a = none ∧ H'' a = some (.lst (stkV st)) ∧ H'' q = some (.lst (LawLex l)) ∧ q ≠ a ∧ (∃ b, out t m'' st l = some (r, b)) ∧ LxOk t l ∧ AnyS l st ∧ lenM t st l ≤ 15000050, fun _ _ h => h, ?_⟩
    have go : ∀ {st' : List Str} {l' : Lx}, step t (x :: st) l = .go st' l' → (∃ b, out t m' st' l' = some (r, b)) ∧ LxOk t l' ∧ AnyS l' st' ∧ lenM t st' l' ≤ 15000050 := fun {st' l'} e1 => by
      rcases hgo with ⟨e2, _⟩ | ⟨p, e2, _⟩ | ⟨st2, l2, e2, hb⟩
      · rw [e1] at e2; cases e2
      · rw [e1] at e2; cases e2
      · rw [e1] at e2
        injection e2 with q1 q2
        subst q1 q2
        exact ⟨hb, (step_less ok e1).1, step_any hany e1, Nat.le_trans (step_len ok e1) lm⟩
    -- top = stack.pop()
    rw [stkV_cons] at ha
    have gl : (stkV st ++ [V.str x])[(stkV st ++ [V.str x]).length - 1]? = some (.str x) := by simp
    refine ⟨_, rfl, lst_ty ha, a, _, .str x, rfl, rfl, ha, gl, ?_⟩
    rw [List.dropLast_concat]
    have s5 : Same H (upd H4 a (.lst (stkV st))) := fun b o e => by
      rw [upd_ne (fun z => by rw [z, fa] at e; cases e)]
      exact s3 _ _ e
    have ha5 : (upd H4 a (.lst (stkV st))) a = some (.lst (stkV st)) := upd_same
    have hq5 : (upd H4 a (.lst (stkV st))) q = some (.lst (LawLex l)) := by
      rw [upd_ne qa]
      exact hq
    clear ha hq
    generalize upd H4 a (.lst (stkV st)) = H5 at s5 ha5 hq5 ⊢
    have lst : st.length ≤ sizeLine := by
      have z := room lm
      exact Nat.le_trans (Nat.le_succ _) z
    obtain ⟨kvs, hd, hro⟩ := hR
    have hd5 := s5 _ _ hd
    have hro5 := (hro x).lk (Lk.same s5) fun _ h => h
    have dg := DGet.k (k := .inr x) hd5
    -- if top in rules
    refine ⟨_, rfl, _, rfl, d, _, rfl, dg, _, rfl, ?_⟩
    cases hrow : rowsOf x with
    | some rows =>
      rw [hrow] at hro5
      cases hv : valV kvs (.inr x) with
      | none => rw [hv] at hro5; exact hro5.elim
      | some v =>
        rw [hv] at hro5 dg
        refine iteT ?_
        obtain ⟨pr, vs, rfl, er, _, prs⟩ := hro5
        refine ⟨_, rfl, _, rfl, d, _, rfl, dg, pr, rfl, ⟨_, SqL.of er⟩, fun D hD => ?_⟩
        refine lc_list (xs := vs) (fun i H' => Same H5 H' ∧ ∃ acc, H' D = some (.lst acc) ∧ Paired (fun v (rw : Row) => StrsAt (fun b => G b ∧ b ≠ D) H' v rw.2) acc ((rows.take i).filter (rowFits (S l.tx)))) ⟨same_up hD _, [], upd_same, .nil⟩ (fun i H' _ h => SqL.of (h.1 _ _ er)) ?_ ?_
        · rintro i y H6 hy ⟨s6, acc, e6, p6⟩
          obtain ⟨row, hrw, ra⟩ := paired_get prs hy
          have ra6 := ra.lk (Lk.same s6) fun _ h => h
          refine ⟨rfl, ?_⟩
          refine row_test ra6 (s6 _ _ hq5) rfl rfl ?_
          have et : rows.take (i + 1) = rows.take i ++ [row] := take_succ_of hrw
          by_cases hf : rowFits (S l.tx) row = true
          · rw [hf]
            refine iteT ?_
            obtain ⟨pw, aw, bw, rfl, ew5, _, _, pb, rfl, eb5, gb⟩ := ra
            have ew := s6 _ _ ew5
            refine ⟨_, rfl, pw, _, 1, .ref pb, rfl, rfl, SqL.of ew, atI_nat (j := 1) rfl, acc, e6, ?_, fun b o e => ?_, _, upd_same, ?_⟩
            · rw [p6.length]
              have l1 := List.length_filter_le (rowFits (S l.tx)) (rows.take i)
              have l2 : (rows.take i).length ≤ rows.length := List.length_take_le' i rows
              have l3 : rows.length ≤ 6 := of_decide_eq_true (List.all_eq_true.mp rows_6 _ (lookup_mem hrow))
              exact Nat.lt_of_le_of_lt (show _ ≤ 6 by omega) (by decide)
            · rw [upd_ne (fun z => by rw [z] at e; rw [e] at hD; cases hD)]
              exact s6 _ _ e
            · rw [et, List.filter_append, show [row].filter (rowFits (S l.tx)) = [row] by simp [hf]]
              have kD : ∀ {v : V} {zs : List Str}, StrsAt (fun b => G b ∧ b ≠ D) H6 v zs → StrsAt (fun b => G b ∧ b ≠ D) (upd H6 D (.lst (acc ++ [.ref pb]))) v zs := fun h => h.lk (fun b xs g e => by
                rw [upd_ne g.2]
                exact e) fun _ h => h
              refine paired_app (paired_imp (fun a b x => kD x) p6) (.cons (kD ?_) .nil)
              exact ⟨pb, rfl, s6 _ _ eb5, gb, fun z => by rw [z, hD] at eb5; cases eb5⟩
          · rw [Bool.eq_false_iff.mpr hf]
            refine iteF ⟨s6, acc, e6, ?_⟩
            rw [et, List.filter_append, show [row].filter (rowFits (S l.tx)) = [] by simp [hf], List.append_nil]
            exact p6
        · rintro H6 ⟨s6, acc, e6, p6⟩
          rw [prs.length, List.take_length] at p6
          obtain ⟨row, hm, epk, hfit⟩ := row_mem (x := S l.tx) hrow
          have hstep : step t (x :: st) l = .go (pickRow rows (S l.tx) ++ st) l := by
            show step1 t x st l = _
            unfold step1
            rw [hrow]
          obtain ⟨go1, go2, go3, go4⟩ := go hstep
          have hfirst : ∃ v more, acc = v :: more ∧ StrsAt (fun b => G b ∧ b ≠ D) H6 v (pickRow rows (S l.tx)) := by
            have ef : rows.find? (rowFits (S l.tx)) = (rows.filter (rowFits (S l.tx))).head? := List.head?_filter.symm
            cases hfl : rows.filter (rowFits (S l.tx)) with
            | nil =>
              have z : row ∈ rows.filter (rowFits (S l.tx)) := List.mem_filter.mpr ⟨hm, hfit⟩
              rw [hfl] at z
              cases z
            | cons r1 more =>
              rw [hfl] at p6 ef
              cases p6 with
              | cons h1 t1 =>
                refine ⟨_, _, rfl, ?_⟩
                unfold pickRow
                rw [ef]
                exact h1
          obtain ⟨v1, more, rfl, pb, rfl, eb, _⟩ := hfirst
          generalize pickRow rows (S l.tx) = body at hstep go1 go2 go3 go4 eb
          refine ⟨_, rfl, _, rfl, D, _, 0, .ref pb, rfl, rfl, SqL.of e6, atI_nat (j := 0) rfl, pb, _, rfl, SqL.of eb, fun p hp => ?_⟩
          rw [show (body.map V.str).reverse = stkV body from by unfold stkV; rw [List.map_reverse]]
          have s7 := s6.trans (same_up hp (.lst (stkV body)))
          have lb : st.length + body.length ≤ sizeLine := by
            have z := room go4
            rw [List.length_append] at z
            omega
          refine ⟨a, p, _, _, rfl, rfl, s7 _ _ ha5, upd_same, by rw [stkV_len, stkV_len]; exact lb, fun p2 hp2 => ?_⟩
          rw [← stkV_app]
          have s8 := s7.trans (same_up hp2 (.lst (stkV (body ++ st))))
          exact ⟨m', Nat.lt_succ_self _, body ++ st, l, p2, q, _, _, rfl, s5.trans s8, sm_none s5 (sm_none s7 hp2), upd_same, s8 _ _ hq5, (fun z => by rw [← z] at hp2; rw [s7 _ _ hq5] at hp2; cases hp2), go1, go2, go3, go4⟩
    | none =>
      rw [hrow] at hro5
      cases hv : valV kvs (.inr x) with
      | some v => rw [hv] at hro5; exact hro5.elim
      | none =>
        refine iteF ?_
        -- elif top == 'NUMPART' and lexeme[1] == '('
        have tst : ∀ {Q' : Bool → Hp → Prop}, Q' (decide (x = ("NUMPART" : Str)) && decide (S l.tx = ("(" : Str))) H5 →
            tAnd (tTest (tOp rEq (tVar 5) (tC (.str "NUMPART")))) (tTest (tOp rEq (tOp (rIxL K) (tVar 4) (tC (.int 1))) (tC (.str "("))))
              [some (.ref d), some (.str (S t)), some (.str form), some (.ref a), some (.ref q), some (.str x), o6, none] H5 Q' := fun {Q'} hq' => by
          refine ⟨_, rfl, rfl, _, rfl, ?_⟩
          rw [eqS]
          by_cases c1 : x = ("NUMPART" : Str)
          · rw [decide_eq_true c1] at hq' ⊢
            refine iteT ⟨_, rfl, q, _, 1, _, rfl, rfl, SqL.of hq5, atI_nat (j := 1) rfl, rfl, _, rfl, ?_⟩
            rw [eqS]
            rw [Bool.true_and] at hq'
            exact hq'
          · rw [decide_eq_false c1] at hq' ⊢
            rw [Bool.false_and] at hq'
            exact iteF hq'
        refine tst ?_
        by_cases c : x = ("NUMPART" : Str) ∧ S l.tx = ("(" : Str)
        · have hstep : step t (x :: st) l = .go ("(" :: "NUM" :: ")" :: st) l := by
            show step1 t x st l = _
            unfold step1
            rw [hrow]
            dsimp only
            rw [if_pos c]
          obtain ⟨go1, go2, go3, go4⟩ := go hstep
          refine iteT_of (by rw [decide_eq_true c.1, decide_eq_true c.2]; rfl) ⟨_, rfl, fit3 (by show 3 ≤ 10; decide), fun p hp => ?_⟩
          have s7 := same_up hp (.lst [.str ")", .str "NUM", .str "("])
          have lb : st.length + 3 ≤ sizeLine := room go4
          refine ⟨a, p, _, _, rfl, rfl, s7 _ _ ha5, upd_same, by rw [stkV_len]; exact lb, fun p2 hp2 => ?_⟩
          have s8 := s7.trans (same_up hp2 (.lst (stkV st ++ [.str ")", .str "NUM", .str "("])))
          refine ⟨m', Nat.lt_succ_self _, "(" :: "NUM" :: ")" :: st, l, p2, q, _, _, rfl, s5.trans s8, sm_none s5 (sm_none s7 hp2), ?_, s8 _ _ hq5, (fun z => by rw [← z] at hp2; rw [s7 _ _ hq5] at hp2; cases hp2), go1, go2, go3, go4⟩
          rw [show ("(" :: "NUM" :: ")" :: st : List Str) = (["(", "NUM", ")"] : List Str) ++ st from rfl, stkV_app]
          exact upd_same
        · refine iteF_of (by rw [Bool.and_eq_false_iff, decide_eq_false_iff_not, decide_eq_false_iff_not]; exact (Classical.em (x = ("NUMPART" : Str))).elim (fun h1 => .inr fun h2 => c ⟨h1, h2⟩) .inl) ?_
          refine ⟨_, rfl, _, rfl, q, l, x, rfl, hq5, hany.1, fun H6 s6 => ⟨_, rfl, ?_⟩⟩
          have hq6 := s6 _ _ hq5
          cases hf : fitsB l x with
          | true =>
            have hstep : step t (x :: st) l = .go st (nx t l) := by
              show step1 t x st l = _
              unfold step1
              rw [hrow]
              dsimp only
              rw [if_neg c, if_pos hf]
            obtain ⟨go1, go2, go3, go4⟩ := go hstep
            refine iteT ⟨_, rfl, _, rfl, q, _, 2, _, rfl, rfl, SqL.of hq6, atI_nat (j := 2) rfl, _, rfl, q, _, 1, _, rfl, rfl, SqL.of hq6, atI_nat (j := 1) rfl, _, rfl, ?_, _, _, rfl, rfl, t, l.pl + l.tx.length, ?_, hl, ok.le, fun q2 H7 s7 f7 e7 => ?_⟩
            · rw [S_len]
              exact Nat.le_trans (Nat.le_trans (Nat.le_add_left _ _) ok.le) (Nat.le_trans hl (by decide))
            · rw [S_len]
              rfl
            · have s8 := s6.trans s7
              exact ⟨m', Nat.lt_succ_self _, st, nx t l, a, q2, _, _, rfl, s5.trans s8, fa, s8 _ _ ha5, e7, (fun z => by rw [z] at f7; rw [s6 _ _ ha5] at f7; cases f7), go1, go2, go3, go4⟩
          | false =>
            refine iteF ⟨_, rfl, q, _, 2, _, rfl, rfl, SqL.of hq6, atI_nat (j := 2) rfl, fit3 (by show 1 ≤ 10; decide), fun p hp => ?_⟩
            have er : r = some l.pl := by
              have hstep : step t (x :: st) l = .fail l.pl := by
                show step1 t x st l = _
                unfold step1
                rw [hrow]
                dsimp only
                rw [if_neg c, if_neg (by rw [hf]; decide)]
              rcases hgo with ⟨e2, _⟩ | ⟨p, e2, hr2⟩ | ⟨st2, l2, e2, _⟩
              · rw [hstep] at e2; cases e2
              · rw [hstep] at e2
                injection e2 with q1
                rw [hr2, q1]
              · rw [hstep] at e2; cases e2
            refine k p _ (s5.trans (s6.trans (same_up hp _))) (sm_none s5 (sm_none s6 hp)) ?_
            rw [er]
            exact upd_same
end
end K04
end

section
set_option Elab.async false
set_option maxRecDepth 100000
set_option maxHeartbeats 4000000
set_option pp.maxSteps 2000
/-! K21: the law's source of draws. -/
namespace K04
open PySem L2 PyProof.Rows
/-! ### the source in the heap -/
def srcKV (q : Addr) (l m t : Int) : List (Key × V) := [(.inr "cells", .ref q), (.inr "left", .int l), (.inr "mixed", .int m), (.inr "turn", .int t)]
theorem src_cells (q : Addr) (l m t : Int) : valV (srcKV q l m t) (.inr "cells") = some (.ref q) := valV_pos rfl
theorem key_no {a b : Str} (h : decide (a = b) = false) : ¬ ((.inr a : Key) = .inr b) := fun e => (of_decide_eq_false h) (Sum.inr.inj e)
theorem src_left (q : Addr) (l m t : Int) : valV (srcKV q l m t) (.inr "left") = some (.int l) := by
  unfold srcKV
  rw [valV_neg (key_no (by decide +kernel)), valV_pos rfl]
theorem src_mixed (q : Addr) (l m t : Int) : valV (srcKV q l m t) (.inr "mixed") = some (.int m) := by
  unfold srcKV
  rw [valV_neg (key_no (by decide +kernel)), valV_neg (key_no (by decide +kernel)), valV_pos rfl]
theorem src_turn (q : Addr) (l m t : Int) : valV (srcKV q l m t) (.inr "turn") = some (.int t) := by
  unfold srcKV
  rw [valV_neg (key_no (by decide +kernel)), valV_neg (key_no (by decide +kernel)), valV_neg (key_no (by decide +kernel)), valV_pos rfl]
theorem put_left (q : Addr) (l m t x : Int) : putK (srcKV q l m t) (.inr "left") (.int x) = srcKV q x m t := by
  unfold putK
  rw [if_pos (by rw [valV_any, src_left]; rfl)]
  unfold srcKV
  simp only [List.map_cons, List.map_nil]
  rw [if_neg (key_no (by decide +kernel)), if_pos trivial, if_neg (key_no (by decide +kernel)), if_neg (key_no (by decide +kernel))]
theorem put_mixed (q : Addr) (l m t x : Int) : putK (srcKV q l m t) (.inr "mixed") (.int x) = srcKV q l x t := by
  unfold putK
  rw [if_pos (by rw [valV_any, src_mixed]; rfl)]
  unfold srcKV
  simp only [List.map_cons, List.map_nil]
  rw [if_neg (key_no (by decide +kernel)), if_neg (key_no (by decide +kernel)), if_pos trivial, if_neg (key_no (by decide +kernel))]
theorem put_turn (q : Addr) (l m t x : Int) : putK (srcKV q l m t) (.inr "turn") (.int x) = srcKV q l m x := by
  unfold putK
  rw [if_pos (by rw [valV_any, src_turn]; rfl)]
  unfold srcKV
  simp only [List.map_cons, List.map_nil]
  rw [if_neg (key_no (by decide +kernel)), if_neg (key_no (by decide +kernel)), if_neg (key_no (by decide +kernel)), if_pos trivial]
structure SrcAt (H : Hp) (s q : Addr) : Prop where
  ex : ∃ (l m t : Int) (cs : List Int), H s = some (.dK (srcKV q l m t)) ∧ H q = some (.lst (cs.map V.int))
/-- all but the source is as it was -/
def Ks (s q : Addr) (H H' : Hp) : Prop := ∀ b o, b ≠ s → b ≠ q → H b = some o → H' b = some o
theorem Ks.refl (s q : Addr) (H : Hp) : Ks s q H H := fun _ _ _ _ h => h
theorem Ks.trans {s q : Addr} {H H1 H2 : Hp} (a : Ks s q H H1) (b : Ks s q H1 H2) : Ks s q H H2 := fun p o h1 h2 h => b p o h1 h2 (a p o h1 h2 h)
theorem Ks.same {s q : Addr} {H H1 : Hp} (a : Same H H1) : Ks s q H H1 := fun p o _ _ h => a p o h
theorem Ks.up {s q : Addr} {H : Hp} {p : Addr} (h : H p = none) (o : HO) : Ks s q H (upd H p o) := Ks.same (same_up h o)
theorem Ks.s {s q : Addr} {H : Hp} {o : HO} : Ks s q H (upd H s o) := fun b x h1 _ e => by
  rw [upd_ne h1]
  exact e
theorem Ks.q {s q : Addr} {H : Hp} {o : HO} : Ks s q H (upd H q o) := fun b x _ h2 e => by
  rw [upd_ne h2]
  exact e
theorem SrcAt.ne {H : Hp} {s q : Addr} (h : SrcAt H s q) : q ≠ s := fun e => by
  obtain ⟨l, m, t, cs, h1, h2⟩ := h.ex
  rw [e, h1] at h2
  cases h2
theorem SrcAt.new {H : Hp} {s q p : Addr} (h : SrcAt H s q) (hp : H p = none) : p ≠ s ∧ p ≠ q := by
  obtain ⟨l, m, t, cs, h1, h2⟩ := h.ex
  exact ⟨fun e => (by rw [e, h1] at hp; cases hp), fun e => (by rw [e, h2] at hp; cases hp)⟩
theorem SrcAt.same {H H1 : Hp} {s q : Addr} (h : SrcAt H s q) (k : Same H H1) : SrcAt H1 s q := by
  obtain ⟨l, m, t, cs, h1, h2⟩ := h.ex
  exact ⟨l, m, t, cs, k _ _ h1, k _ _ h2⟩
theorem SrcAt.up {H : Hp} {s q p : Addr} (h : SrcAt H s q) (hp : H p = none) (o : HO) : SrcAt (upd H p o) s q := h.same (same_up hp o)
/-- a list of ours is written -/
theorem SrcAt.set {H : Hp} {s q p : Addr} (h : SrcAt H s q) (h1 : p ≠ s) (h2 : p ≠ q) (o : HO) : SrcAt (upd H p o) s q := by
  obtain ⟨l, m, t, cs, e1, e2⟩ := h.ex
  exact ⟨l, m, t, cs, by rw [upd_ne (Ne.symm h1)]; exact e1, by rw [upd_ne (Ne.symm h2)]; exact e2⟩
section
variable {P : Program} {w : World} {K : PySem.W.Frag} {mg : Str → Option Value} {base : Heap}
theorem sc_lw_pick : FnScope ["_law_source_here", "_law_many", "_law_left", "_law_mixed"] ["_law_source_here", "_law_many"] (defScope (topS 53)) := ⟨rfl, rfl, rfl, by decide +kernel, rfl, by decide +kernel, by decide +kernel⟩
def spPick : Sp := fun vs H Q _ => ∃ (s q : Addr) (n : Int), vs = [.ref s, .int n] ∧ SrcAt H s q ∧ 0 ≤ n ∧ n ≤ 16777216 ∧ ∀ (i : Int) H', 0 ≤ i → i < (if n > 1 then n else 1) → Ks s q H H' → SrcAt H' s q → Q (.int i) H'
theorem ok_lw_pick (Z : LwTx K mg) : FnOk P w K mg base CX0 1 Z.lw_pick.f Z.lw_pick.fd ["_law_source_here", "_law_many"] spPick := by
  refine Z.lw_pick.F.ok sc_lw_pick (fun vs H Q E h => ?_) (fun cdv A outer s H vs Q E hr h => ?_)
  · obtain ⟨s, q, n, rfl, _⟩ := h
    rfl
  obtain ⟨s, q, n, rfl, hS, h0, h24, k⟩ := h
  have nd := sc_lw_pick.nd
  have lt1 : ∀ {j : Int}, 0 < (if n > 1 then n else 1) := by
    intro _
    split <;> omega
  have ge : (if n > 1 then n else 1 : Int) ≠ 0 ∧ (if n > 1 then n else 1 : Int).natAbs < 1073741824 := by
    split <;> omega
  refine ⟨_, (pss_cons (ps_while PassesOwn.never (PW.pt (pw_and (pt_cmpR op_gt (pv 1) pe_int (nomark _)) (pw_and (pt_cmpR op_lt (pe_dget (hu_of hr) (pv 0) pe_str (fun _ _ => rfl)) pe_int (nomark _)) (pw_and1 (pt_cmpR op_gt (pe_callB call_len_seq (by rfl) Z.m_len PySem.boot_len (pa_cons (pe_dget (hu_of hr) (pv 0) pe_str (fun _ _ => rfl)) pa_nil)) pe_int (nomark _)))))) (pss_one (ps_dput (hu_of hr) (pv 0) pe_str (pe_bm0 PySem.F.plainAttrs_list PySem.F.slot_list_pop PySem.F.type_list_pop mt_pop (pe_dget (hu_of hr) (pv 0) pe_str (fun _ _ => rfl))) rfl)))
    (pss_cons (ps_set (i := 2) nd rfl (.inl rfl) (pe_dget (hu_of hr) (pv 0) pe_str (fun _ _ => rfl)))
    (pss_cons (ps_if (PW.pt (pw_or (pt_cmpR op_lt (pv 1) pe_int (nomark _)) (pw_or1 (pt_cmpR op_gt (pv 2) pe_int (nomark _))))) (pss_cons (ps_dput (hu_of hr) (pv 0) pe_str (pe_op op_fdivN (pv 2) (pe_callB (call_max2 rfl) (by rfl) Z.m_max (by decide +kernel) (pa_cons pe_int (pa_cons (pv 1) pa_nil)))) rfl)
    (pss_one (ps_ret (pe_op op_mod (pe_callTy call_int1 (by rfl) Z.m_int (by decide +kernel) (pa_cons (pv 2) pa_nil)) (pe_callB (call_max2 rfl) (by rfl) Z.m_max (by decide +kernel) (pa_cons pe_int (pa_cons (pv 1) pa_nil))))))) pss_nil)
    (pss_cons (ps_dput (hu_of hr) (pv 0) pe_str (pe_op op_add (pe_dget (hu_of hr) (pv 0) pe_str (fun _ _ => rfl)) pe_int) rfl)
    (pss_cons (ps_set (i := 3) nd rfl (.inl rfl) (pe_op op_mod (pe_callTy call_int1 (by rfl) Z.m_int (by decide +kernel) (pa_cons (pe_op op_add (pe_dget (hu_of hr) (pv 0) pe_str (fun _ _ => rfl)) (pe_op op_mul (pe_dget (hu_of hr) (pv 0) pe_str (fun _ _ => rfl)) pe_int)) pa_nil)) pe_int))
    (pss_cons (ps_set (i := 3) nd rfl (.inl rfl) (pe_op op_mod (pe_callTy call_int1 (by rfl) Z.m_int (by decide +kernel) (pa_cons (pe_op op_add (pe_op op_mul (pv 3) (pv 3)) (pe_op op_mul (pe_dget (hu_of hr) (pv 0) pe_str (fun _ _ => rfl)) pe_int)) pa_nil)) pe_int))
    (pss_cons (ps_dput (hu_of hr) (pv 0) pe_str (pv 3) rfl)
    (pss_one (ps_ret (pe_op op_mod (pe_callTy call_int1 (by rfl) Z.m_int (by decide +kernel) (pa_cons (pe_op op_fdivN (pv 3) pe_int) pa_nil)) (pv 1))))))))))), ?_⟩
  refine ⟨fun m σ H' => ∃ (l mi t : Int) (cs : List Int), σ = [some (.ref s), some (.int n), none, none] ∧ Ks s q H H' ∧ H' s = some (.dK (srcKV q l mi t)) ∧ H' q = some (.lst (cs.map V.int)) ∧ m = cs.length, ?_, ?_⟩
  · obtain ⟨l, mi, t, cs, e1, e2⟩ := hS.ex
    exact ⟨_, l, mi, t, cs, rfl, Ks.refl _ _ _, e1, e2, rfl⟩
  have qs := hS.ne
  rintro m σ H1 ⟨l, mi, t, cs, rfl, ks, e1, e2, rfl⟩
  have gC := DGet.k (k := .inr "cells") e1
  have gL := DGet.k (k := .inr "left") e1
  have gM := DGet.k (k := .inr "mixed") e1
  have gT := DGet.k (k := .inr "turn") e1
  rw [src_cells] at gC
  rw [src_left] at gL
  rw [src_mixed] at gM
  rw [src_turn] at gT
  have tst : ∀ {Q' : Bool → Hp → Prop}, (cs ≠ [] → Q' true H1) → Q' false H1 → tAnd (tTest (tOp (rI0 fun i j => .bl (decide (j < i))) (tVar 1) (tC (.int 1)))) (tAnd (tTest (tOp (rI0 fun i j => .bl (decide (i < j))) (tDGet (tVar 0) (tC (.str "left"))) (tC (.int 2))))
      (tTest (tOp (rI0 fun i j => .bl (decide (j < i))) (tCB (fun xs H Q => ∃ p ys, xs = [.ref p] ∧ (SqL K H p ys ∨ SqT K H p ys) ∧ Q (.int ys.length) H) (tCons (tDGet (tVar 0) (tC (.str "cells"))) tNil)) (tC (.int 0))))) [some (.ref s), some (.int n), none, none] H1 Q' := fun {Q'} kT kF => by
    refine ⟨_, rfl, _, _, rfl, rfl, _, rfl, ?_⟩
    by_cases c1 : (1 : Int) < n
    · rw [decide_eq_true c1]
      refine iteT ⟨_, rfl, s, .int l, rfl, gL, _, _, rfl, rfl, _, rfl, ?_⟩
      by_cases c2 : l < 2
      · rw [decide_eq_true c2]
        refine iteT ⟨_, rfl, s, .ref q, rfl, gC, q, _, rfl, .inl (SqL.of e2), _, _, rfl, rfl, _, rfl, ?_⟩
        by_cases c3 : cs = []
        · subst c3
          exact kF
        · rw [decide_eq_true (show (0 : Int) < ((cs.map V.int).length : Nat) by
            rw [List.length_map]
            have := List.length_pos_iff.mpr c3
            omega)]
          exact kT c3
      · rw [decide_eq_false c2]
        exact iteF kF
    · rw [decide_eq_false c1]
      exact iteF kF
  refine tst (fun hne => iteT ⟨fun σ' H'' => ∃ m', m' < cs.length ∧ ∃ (l mi t : Int) (cs : List Int), σ' = [some (.ref s), some (.int n), none, none] ∧ Ks s q H H'' ∧ H'' s = some (.dK (srcKV q l mi t)) ∧ H'' q = some (.lst (cs.map V.int)) ∧ m' = cs.length, fun _ _ h => h, ?_⟩) (iteF ?_)
  · rcases List.eq_nil_or_concat cs with rfl | ⟨cs1, c, e⟩
    · exact absurd rfl hne
    rw [List.concat_eq_append] at e
    subst e
    rw [List.map_append] at e2
    refine ⟨_, rfl, s, .ref q, rfl, gC, lst_ty e2, q, _, .int c, rfl, rfl, e2, by simp, ?_⟩
    rw [show (cs1.map V.int ++ [c].map V.int).dropLast = cs1.map V.int from List.dropLast_concat]
    have e3 : (upd H1 q (.lst (cs1.map V.int))) s = some (.dK (srcKV q l mi t)) := by
      rw [upd_ne (Ne.symm qs)]
      exact e1
    refine ⟨_, rfl, s, _, rfl, DPut.k (k := .inr "left") e3 (by show 4 < sizeLine; decide), ?_⟩
    rw [put_left]
    exact ⟨cs1.length, by rw [List.length_append]; exact Nat.lt_succ_self _, c, mi, t, cs1, rfl, ks.trans (Ks.q.trans Ks.s), upd_same, (by rw [upd_ne qs]; exact upd_same), rfl⟩
  -- left = source['left']
  refine ⟨_, rfl, s, .int l, rfl, gL, ?_⟩
  have fin : ∀ {Q' : Bool → Hp → Prop}, (n < 2 ∨ 1 < l → Q' true H1) → (1 < n → Q' false H1) → tOr (tTest (tOp (rI0 fun i j => .bl (decide (i < j))) (tVar 1) (tC (.int 2)))) (tTest (tOp (rI0 fun i j => .bl (decide (j < i))) (tVar 2) (tC (.int 1)))) [some (.ref s), some (.int n), some (.int l), none] H1 Q' := fun {Q'} kT kF => by
    refine ⟨_, rfl, _, _, rfl, rfl, _, rfl, ?_⟩
    by_cases c1 : n < 2
    · rw [decide_eq_true c1]
      exact iteT (kT (.inl c1))
    · rw [decide_eq_false c1]
      refine iteF ⟨_, rfl, _, _, rfl, rfl, _, rfl, ?_⟩
      by_cases c2 : 1 < l
      · rw [decide_eq_true c2]
        exact kT (.inr c2)
      · rw [decide_eq_false c2]
        exact kF (by omega)
  refine fin (fun _ => iteT ?_) (fun h1 => iteF ?_)
  · refine ⟨_, rfl, _, rfl, _, _, rfl, _, _, rfl, rfl, ge, _, rfl, s, _, rfl, DPut.k (k := .inr "left") e1 (by show 4 < sizeLine; decide), ?_⟩
    rw [put_left]
    refine ⟨_, rfl, .inl ⟨_, rfl, _, rfl, _, _, rfl, _, _, rfl, rfl, lt1 (j := 0), ?_⟩⟩
    have q1 := Int.emod_nonneg l (ge.1)
    have q2 := Int.emod_lt_of_pos l (lt1 (j := 0))
    exact k _ _ q1 q2 (ks.trans Ks.s) ⟨_, _, _, _, upd_same, (by rw [upd_ne qs]; exact e2)⟩
  · refine ⟨_, rfl, s, .int t, rfl, gT, _, _, rfl, rfl, _, rfl, s, _, rfl, DPut.k (k := .inr "turn") e1 (by show 4 < sizeLine; decide), ?_⟩
    rw [put_turn]
    have e3 : (upd H1 s (.dK (srcKV q l mi (t + 1)))) s = some (.dK (srcKV q l mi (t + 1))) := upd_same
    have e4 : (upd H1 s (.dK (srcKV q l mi (t + 1)))) q = some (.lst (cs.map V.int)) := by rw [upd_ne qs]; exact e2
    have ks3 : Ks s q H (upd H1 s (.dK (srcKV q l mi (t + 1)))) := ks.trans Ks.s
    generalize upd H1 s (.dK (srcKV q l mi (t + 1))) = H3 at e3 e4 ks3 ⊢
    have gM := DGet.k (k := .inr "mixed") e3
    have gT := DGet.k (k := .inr "turn") e3
    rw [src_mixed] at gM
    rw [src_turn] at gT
    refine ⟨_, rfl, s, .int mi, rfl, gM, _, rfl, s, .int (t + 1), rfl, gT, _, _, rfl, rfl, .inr ⟨by decide, by decide⟩, _, _, rfl, rfl, .inl ⟨_, rfl, _, _, rfl, rfl, (by show (0 : Int) < 998244353; decide), ?_⟩⟩
    have b1 := Int.emod_nonneg (mi + (t + 1) * 104729) (b := 998244353) (by decide)
    have b2 := Int.emod_lt_of_pos (mi + (t + 1) * 104729) (b := 998244353) (by decide)
    generalize (mi + (t + 1) * 104729) % 998244353 = x at b1 b2
    refine ⟨_, rfl, _, rfl, _, _, rfl, rfl, .inl ⟨by omega, by omega⟩, _, rfl, s, .int (t + 1), rfl, gT, _, _, rfl, rfl, .inr ⟨by decide, by decide⟩, _, _, rfl, rfl, .inl ⟨_, rfl, _, _, rfl, rfl, (by show (0 : Int) < 2147483647; decide), ?_⟩⟩
    refine ⟨_, rfl, _, rfl, s, _, rfl, DPut.k (k := .inr "mixed") e3 (by show 4 < sizeLine; decide), ?_⟩
    rw [put_mixed]
    have p1 : (0 : Int) < n := by omega
    refine ⟨_, rfl, _, _, rfl, rfl, ⟨by decide, by decide⟩, .inl ⟨_, rfl, _, rfl, _, _, rfl, rfl, p1, ?_⟩⟩
    exact k _ _ (Int.emod_nonneg _ (Int.ne_of_gt p1)) (by rw [if_pos h1]; exact Int.emod_lt_of_pos _ p1) (ks3.trans Ks.s) ⟨_, _, _, _, upd_same, (by rw [upd_ne qs]; exact e4)⟩
theorem sc_lw_of : FnScope ["_law_source_here", "_law_some"] ["_law_source_here", "_law_some"] (defScope (topS 54)) := ⟨rfl, rfl, rfl, by decide +kernel, rfl, by decide +kernel, by decide +kernel⟩
/-- one of a list that stands -/
def spOf : Sp := fun vs H Q _ => ∃ (s q p : Addr) (xs : List V), vs = [.ref s, .ref p] ∧ SrcAt H s q ∧ H p = some (.lst xs) ∧ p ≠ s ∧ p ≠ q ∧ xs ≠ [] ∧ xs.length ≤ 16777216 ∧ ∀ y H', y ∈ xs → Ks s q H H' → SrcAt H' s q → Q y H'
theorem ok_lw_of (Z : LwTx K mg) : FnOk P w K mg base CX0 2 Z.lw_of.f Z.lw_of.fd ["_law_source_here", "_law_some"] spOf := by
  have G_lw_pick := ok_lw_pick (w := w) (P := P) (base := base) Z
  refine Z.lw_of.F.ok sc_lw_of (fun vs H Q E h => ?_) (fun cdv A outer s H vs Q E hr h => ?_)
  · obtain ⟨s, q, p, xs, rfl, _⟩ := h
    rfl
  obtain ⟨s, q, p, xs, rfl, hS, hp, ps, pq, hne, hl, k⟩ := h
  have nd := sc_lw_of.nd
  have hpos := List.length_pos_iff.mpr hne
  refine ⟨_, (pss_one (ps_ret (pe_ix ix_list (pv 1) (pe_call G_lw_pick (hr.mono (by omega)) rfl Z.lw_pick.g Z.lw_pick.F.kp Z.lw_pick.b .nil pass0 (pa_cons (pv 0) (pa_cons (pe_callB call_len_seq (by rfl) Z.m_len PySem.boot_len (pa_cons (pv 1) pa_nil)) pa_nil))) (fun _ _ => rfl)))), ?_⟩
  refine ⟨_, rfl, _, rfl, _, rfl, p, xs, rfl, .inl (SqL.of hp), s, q, xs.length, rfl, hS, by omega, by omega, fun i H' h0 h1 ks hS' => ?_⟩
  have hi : i < (xs.length : Int) := by
    split at h1 <;> omega
  obtain ⟨j, rfl⟩ := Int.eq_ofNat_of_zero_le h0
  have hj : j < xs.length := by omega
  have hx : xs[j]? = some xs[j] := List.getElem?_eq_getElem hj
  exact ⟨p, xs, (j : Nat), xs[j], rfl, rfl, SqL.of (ks _ _ ps pq hp), atI_nat hx, k _ _ (List.getElem_mem hj) ks hS'⟩
end
end K04
end

section
set_option Elab.async false
set_option maxRecDepth 100000
set_option maxHeartbeats 4000000
set_option pp.maxSteps 2000
/-! K22: the source is made; a name is drawn. -/
namespace K04
open PySem L2 PyProof.Rows
section
variable {P : Program} {w : World} {K : PySem.W.Frag} {mg : Str → Option Value} {base : Heap}
theorem sc_lw_source : FnScope ["_law_script", "_law_mixed", "_law_cell"] ["_law_script"] (defScope (topS 52)) := ⟨rfl, rfl, rfl, by decide +kernel, rfl, by decide +kernel, by decide +kernel⟩
def spSource : Sp := fun vs H Q _ => ∃ (a : Addr) (cs : List Int), vs = [.ref a] ∧ SqL K H a (cs.map V.int) ∧ cs.length ≤ 1000 ∧ ∀ s q H', Same H H' → H s = none → H q = none → SrcAt H' s q → Q (.ref s) H'
theorem sql_keep {K : PySem.W.Frag} {H H' : Hp} {a : Addr} {xs : List V} (h : SqL K H a xs) (s : Same H H') : SqL K H' a xs := by
  rcases h with (h | ⟨o, h⟩) | h
  · exact .inl (.inl (s _ _ h))
  · exact .inl (.inr ⟨o, s _ _ h⟩)
  · exact .inr h
theorem ok_lw_source (Z : LwTx K mg) : FnOk P w K mg base CX0 1 Z.lw_source.f Z.lw_source.fd ["_law_script"] (spSource (K := K)) := by
  refine Z.lw_source.F.ok sc_lw_source (fun vs H Q E h => ?_) (fun cdv A outer s H vs Q E hr h => ?_)
  · obtain ⟨a, cs, rfl, _⟩ := h
    rfl
  obtain ⟨a, cs, rfl, hS, hl, k⟩ := h
  have nd := sc_lw_source.nd
  refine ⟨_, pss_cons (ps_set (i := 1) nd rfl (.inl rfl) pe_int)
    (pss_cons (ps_for PassesOwn.never rfl (pi_list (pv 0)) (pg_name (i := 2) nd rfl (.inl rfl)) (pss_one (ps_set (i := 1) nd rfl (.inl rfl) (pe_op op_mod (pe_callTy call_int1 (by rfl) Z.m_int (by decide +kernel) (pa_cons (pe_op op_add (pe_op op_add (pe_op op_mul (pv 1) pe_int) (pe_op op_mul (pv 2) pe_int)) pe_int) pa_nil)) pe_int))))
    (pss_one (ps_ret (pe_disp (pps_cons pe_str (pe_revL (pe_lc (own := [("_law_cell", 2)]) rfl nd (pi_list (pv 0)) (blkOk_by (own := [("_law_cell", 2)]) (N := ["_law_script", "_law_mixed", "_law_cell"]) (sc := defScope (topS 52)) (by decide +kernel)) (fun _ _ _ _ _ => pg_name (i := 2) nd rfl (Or.inl rfl)) (fun _ _ _ _ _ => pts_nil)
      (fun _ _ _ _ _ => pe_callB call_abs (by rfl) Z.m_abs (by decide +kernel) (pa_cons (pv 2) pa_nil)))) (pps_cons pe_str pe_int (pps_cons pe_str (pv 1) (pps_cons pe_str pe_int pps_nil)))) (by rfl) (by rfl) (fun z => by cases z) (by decide))))), ?_⟩
  refine ⟨_, rfl, a, rfl, ⟨_, hS⟩, for_list (xs := cs.map V.int) (fun _ σ H' => ∃ (m : Int) (o : Option V), σ = [some (.ref a), some (.int m), o] ∧ H' = H) ⟨11, none, rfl, rfl⟩ (fun i σ H' _ ⟨_, _, _, e⟩ => by rw [e]; exact hS) (fun i y σ H' hy ⟨m, o, e1, e2⟩ => ?_) (fun σ H' ⟨m, o, e1, e2⟩ => ?_)⟩
  · subst e1 e2
    obtain ⟨c, _, rfl⟩ := List.mem_map.mp (List.mem_of_getElem? hy)
    exact ⟨_, rfl, _, _, rfl, rfl, .inr ⟨by decide, by decide⟩, _, rfl, _, _, rfl, rfl, .inr ⟨by decide, by decide⟩, _, _, rfl, rfl, _, _, rfl, rfl, .inl ⟨_, rfl, _, _, rfl, rfl, (by show (0 : Int) < 2147483629; decide), _, _, rfl, rfl⟩⟩
  · subst e1 e2
    intro s hs
    have s1 := same_up hs (.dK [])
    refine ⟨_, rfl, a, rfl, ⟨_, sql_keep hS s1⟩, fun D hD => ?_⟩
    refine lc_list (xs := cs.map V.int) (fun i H2 => Same (upd H' s (.dK [])) H2 ∧ ∃ zs : List Int, H2 D = some (.lst (zs.map V.int)) ∧ zs.length ≤ i) ⟨same_up hD _, [], upd_same, Nat.le_refl _⟩ (fun i H2 _ h => sql_keep hS (s1.trans h.1)) ?_ ?_
    · rintro i y H2 hy ⟨s2, zs, e2, l2⟩
      obtain ⟨c, _, rfl⟩ := List.mem_map.mp (List.mem_of_getElem? hy)
      have hi : i < (cs.map V.int).length := (List.getElem?_eq_some_iff.mp hy).1
      rw [List.length_map] at hi
      refine ⟨rfl, iteT (B := Same (upd H' s (.dK [])) H2 ∧ ∃ zs : List Int, H2 D = some (.lst (zs.map V.int)) ∧ zs.length ≤ i + 1) ⟨_, rfl, _, rfl, _, e2, ?_, fun b o e => ?_, zs ++ [_], by rw [upd_same, List.map_append]; rfl, ?_⟩⟩
      · rw [List.length_map]
        exact Nat.lt_of_lt_of_le (show zs.length < 1000 by omega) (fit3' (Nat.le_refl _))
      · rw [upd_ne (fun z => by rw [z] at e; rw [e] at hD; cases hD)]
        exact s2 _ _ e
      · rw [List.length_append, List.length_singleton]
        omega
    · rintro H2 ⟨s2, zs, e2, _⟩
      refine ⟨D, _, rfl, SqL.of e2, fun q hq => ⟨_, rfl, ?_⟩⟩
      have s3 := s2.trans (same_up hq (.lst (zs.map V.int).reverse))
      have es := s3 _ _ (upd_same (H := H') (a := s) (o := .dK []))
      refine ⟨es, [(.inr "cells", .ref q), (.inr "left", .int 1), (.inr "mixed", .int m), (.inr "turn", .int 0)], rfl, (by show 4 ≤ 15; decide), ?_⟩
      have qs : q ≠ s := fun z => by rw [z, s2 _ _ upd_same] at hq; cases hq
      have em : mergeK [] [((.inr "cells" : Key), V.ref q), (.inr "left", .int 1), (.inr "mixed", .int m), (.inr "turn", .int 0)] = srcKV q 1 m 0 := rfl
      rw [em]
      refine k s q _ (fun b o e => ?_) hs (sm_none s1 (sm_none s2 hq)) ⟨1, m, 0, zs.reverse, upd_same, ?_⟩
      · rw [upd_ne (fun z => by rw [z, hs] at e; cases e)]
        exact s3 _ _ (s1 _ _ e)
      · rw [upd_ne qs, upd_same, List.map_reverse]
theorem sc_lw_any_name : FnScope ["_law_source_here", "_law_some", "_law_word", "_law_lap"] ["_law_source_here"] (defScope (topS 57)) := ⟨rfl, rfl, rfl, by decide +kernel, rfl, by decide +kernel, by decide +kernel⟩
/-- figures, signs that open -/
def fgs (v : List Nat) : Nat := v.countP (inS FIG)
def nsg (v : List Nat) : Nat := v.countP isN
/-- a word that is drawn as a name -/
def NameW (v : List Nat) : Prop := 1 ≤ v.length ∧ v.length ≤ 20 ∧ fgs v ≤ 4 ∧ nsg v = 0
def spName1 : Sp := fun vs H Q _ => ∃ (s q : Addr), vs = [.ref s] ∧ SrcAt H s q ∧ ∀ v H', NameW v → Ks s q H H' → SrcAt H' s q → Q (.str (S v)) H'
def baseN : List Str := ["a", "b", "x", "y1", "clock", "sum_out", "in1", "bits_", "tops", "abcdefghijklmnop", "n", "w", "r_0"]
theorem base_ok : (baseN.all fun z => decide (1 ≤ z.cps.toList.length) && decide (z.cps.toList.length ≤ 16) && decide (fgs z.cps.toList ≤ 1) && decide (nsg z.cps.toList = 0)) = true := by decide +kernel
theorem tail_ok : ((S ("abcxyz019_" : Str).cps.toList).cps.toList.all fun c => decide (nsg [c] = 0)) = true := by decide +kernel
theorem S_app (a b : List Nat) : S a ++ S b = S (a ++ b) := by
  show Str.append (S a) (S b) = _
  unfold Str.append S
  simp
theorem ok_lw_any_name (Z : LwTx K mg) : FnOk P w K mg base CX0 3 Z.lw_any_name.f Z.lw_any_name.fd ["_law_source_here"] spName1 := by
  have G_lw_pick := ok_lw_pick (w := w) (P := P) (base := base) Z
  have G_lw_of := ok_lw_of (w := w) (P := P) (base := base) Z
  refine Z.lw_any_name.F.ok sc_lw_any_name (fun vs H Q E h => ?_) (fun cdv A outer s H vs Q E hr h => ?_)
  · obtain ⟨s, q, rfl, _⟩ := h
    rfl
  obtain ⟨s, q, rfl, hS, k⟩ := h
  have nd := sc_lw_any_name.nd
  refine ⟨_, (pss_cons (ps_set (i := 1) nd rfl (.inl rfl) (pe_lst (pa_cons pe_str (pa_cons pe_str (pa_cons pe_str (pa_cons pe_str (pa_cons pe_str (pa_cons pe_str (pa_cons pe_str (pa_cons pe_str (pa_cons pe_str (pa_cons pe_str (pa_cons pe_str (pa_cons pe_str (pa_cons pe_str pa_nil)))))))))))))))
    (pss_cons (ps_set (i := 2) nd rfl (.inl rfl) (pe_call G_lw_of (hr.mono (by omega)) rfl Z.lw_of.g Z.lw_of.F.kp Z.lw_of.b .nil pass0 (pa_cons (pv 0) (pa_cons (pv 1) pa_nil))))
    (pss_cons (ps_for PassesOwn.never rfl (pi_range1 (by rfl) Z.m_range (pa_cons (pe_call G_lw_of (hr.mono (by omega)) rfl Z.lw_of.g Z.lw_of.F.kp Z.lw_of.b .nil pass0 (pa_cons (pv 0) (pa_cons (pe_lst (pa_cons pe_int (pa_cons pe_int (pa_cons pe_int (pa_cons pe_int (pa_cons pe_int pa_nil)))))) pa_nil))) pa_nil)) (pg_name (i := 3) nd rfl (.inl rfl)) (pss_one (ps_set (i := 2) nd rfl (.inl rfl) (pe_op op_add_str (pv 2) (pe_ix ix_str pe_str (pe_call G_lw_pick (hr.mono (by omega)) rfl Z.lw_pick.g Z.lw_pick.F.kp Z.lw_pick.b .nil pass0 (pa_cons (pv 0) (pa_cons pe_int pa_nil))) (fun _ _ => rfl))))))
    (pss_one (ps_ret (pe_ifExp (pt_cmpR op_lt (pe_callB call_len_str (by rfl) Z.m_len PySem.boot_len (pa_cons (pv 2) pa_nil)) pe_int (nomark _)) (pv 2) (pe_slice sl_str (pv 2) po_none (po_some pe_int)))))))), ?_⟩
  refine ⟨fit3' (show 13 ≤ 1000 by decide), fun p hp => ?_⟩
  have n1 := hS.new hp
  refine ⟨_, rfl, _, rfl, s, q, p, baseN.map V.str, rfl, hS.up hp _, upd_same, n1.1, n1.2, (by decide), (by rw [List.length_map]; decide), fun y H2 hy ks2 hS2 => ?_⟩
  obtain ⟨z, hz, rfl⟩ := List.mem_map.mp hy
  have bz := List.all_eq_true.mp base_ok z hz
  simp only [Bool.and_eq_true, decide_eq_true_eq] at bz
  obtain ⟨⟨⟨b1, b2⟩, b3⟩, b4⟩ := bz
  have ks2 := (Ks.up (s := s) (q := q) hp (.lst (baseN.map V.str))).trans ks2
  -- the laps
  refine ⟨_, rfl, fit3 (by show 5 ≤ 10; decide), fun p2 hp2 => ?_⟩
  have n2 := hS2.new hp2
  refine ⟨s, q, p2, _, rfl, hS2.up hp2 _, upd_same, n2.1, n2.2, (fun z => nomatch z), (by show 5 ≤ 16777216; decide), fun y3 H3 hy3 ks3 hS3 => ?_⟩
  have ks3 := ks2.trans ((Ks.up (s := s) (q := q) hp2 (.lst [.int 0, .int 0, .int 0, .int 1, .int 3])).trans ks3)
  have hn : ∃ n : Nat, y3 = .int n ∧ n ≤ 3 := by
    simp only [List.mem_cons, List.not_mem_nil, or_false] at hy3
    rcases hy3 with rfl | rfl | rfl | rfl | rfl
    · exact ⟨0, rfl, by decide⟩
    · exact ⟨0, rfl, by decide⟩
    · exact ⟨0, rfl, by decide⟩
    · exact ⟨1, rfl, by decide⟩
    · exact ⟨3, rfl, by decide⟩
  obtain ⟨n, rfl, hn3⟩ := hn
  refine ⟨(n : Nat), rfl, by omega, by omega, for_range (n := n) (fun i σ H' => ∃ v o, σ = [some (.ref s), some (.ref p), some (.str (S v)), o] ∧ 1 ≤ v.length ∧ v.length ≤ 16 + i ∧ fgs v ≤ 1 + i ∧ nsg v = 0 ∧ Ks s q H H' ∧ SrcAt H' s q)
    ⟨z.cps.toList, none, by rw [S_of]; rfl, b1, b2, b3, b4, ks3, hS3⟩ (fun i σ H' hi ⟨v, o, e, c1, c2, c3, c4, ks, hs⟩ => ?_) (fun σ H' ⟨v, o, e, c1, c2, c3, c4, ks, hs⟩ => ?_)⟩
  · subst e
    refine ⟨_, rfl, _, rfl, s, q, 10, rfl, hs, by decide, by decide, fun j H4 h0 h1 ks4 hS4 => ?_⟩
    have hj : j < 10 := by
      rw [if_pos (by decide)] at h1
      exact h1
    obtain ⟨j, rfl⟩ := Int.eq_ofNat_of_zero_le h0
    have hj' : j < ("abcxyz019_" : Str).cps.toList.length := by
      have : ("abcxyz019_" : Str).cps.toList.length = 10 := by decide +kernel
      omega
    have hc := List.getElem?_eq_getElem hj'
    have tl := List.all_eq_true.mp tail_ok (("abcxyz019_" : Str).cps.toList[j]) (by rw [S_codes]; exact List.getElem_mem hj')
    generalize ("abcxyz019_" : Str).cps.toList[j] = c at hc tl
    refine ⟨_, (j : Nat), c, rfl, rfl, fit3 (by decide), atI_nat hc, _, _, rfl, rfl, ?_, v ++ [c], some (.int ((0 : Int) + (i : Nat))), ?_, ?_, ?_, ?_, ?_, ks.trans ks4, hS4⟩
    · have : (⟨#[c]⟩ : Str).length = 1 := rfl
      rw [S_len, this]
      exact fit3' (by omega)
    · rw [← S_app]
      rfl
    · rw [List.length_append]; omega
    · rw [List.length_append, List.length_singleton]; omega
    · unfold fgs at c3 ⊢
      rw [List.countP_append]
      have : [c].countP (inS FIG) ≤ 1 := List.countP_le_length
      omega
    · unfold nsg at c4 tl ⊢
      rw [List.countP_append, c4, of_decide_eq_true tl]
  · subst e
    refine ⟨_, rfl, _, rfl, fit3' (by rw [S_len]; omega), _, _, rfl, rfl, _, rfl, ?_⟩
    rw [S_len]
    by_cases c : ((v.length : Nat) : Int) < 17
    · rw [decide_eq_true c]
      exact iteT ⟨_, rfl, k v H' ⟨c1, by omega, by omega, c4⟩ ks hs⟩
    · rw [decide_eq_false c]
      refine iteF ⟨_, rfl, _, rfl, _, rfl, fit3' (by rw [S_len]; omega), ?_⟩
      have ec : cutS (S v) none (some 16) = S (v.take 16) := by
        unfold cutS
        rw [S_len, S_codes]
        have e1 : HT.sIx v.length 0 none = 0 := rfl
        have e2 : HT.sIx v.length v.length (some 16) = 16 := by
          have z := HT.sIx_nat v.length v.length 16
          rw [Nat.min_eq_left (by omega)] at z
          exact z
        rw [e1, e2]
        rfl
      rw [ec]
      have sub : (v.take 16).Sublist v := List.take_sublist 16 v
      refine k _ H' ⟨by rw [List.length_take]; omega, by rw [List.length_take]; omega, ?_, ?_⟩ ks hs
      · exact Nat.le_trans sub.countP_le (by unfold fgs at c3; omega)
      · exact Nat.le_zero.mp (Nat.le_trans sub.countP_le (Nat.le_of_eq c4))
end
end K04
end

section
set_option Elab.async false
set_option maxRecDepth 100000
set_option maxHeartbeats 4000000
set_option pp.maxSteps 2000
/-! K23: what bounds a drawn text: how many words, figures, opening signs. -/
namespace K04
open PySem L2 PyProof.Rows
def wF : Str → Nat := wt
def wH (s : Str) : Nat := 28 * hh s
def fF : Str → Nat := tblN [("NAME", 4), ("NUMPART", 3), ("NUM", 3), ("E", 4), ("PART", 4), ("ATOM", 4), ("ITEM", 8), ("PORT", 8), ("MODULE", 4), ("DESIGN", 8), ("NAMED", 4), ("EWHOLE", 4), ("NUMWHOLE", 3)]
def fHT : List (Str × Nat) := [("MODULES", 22), ("SIZENAMES", 22), ("MORENAMES", 22), ("SIZES", 22), ("MORENUMS", 22), ("ITEMS", 22), ("ITEM", 14), ("ELSE", 22), ("NAMED", 3), ("PORTS", 22), ("MOREPORTS", 22), ("NUMTAIL", 22), ("E", 2), ("TAIL", 22), ("PART", 2), ("CUTS", 22), ("ATOM", 2), ("AT", 22), ("BEHIND", 22), ("EWHOLE", 2), ("END", 22)]
def fH : Str → Nat := tblN fHT
def nF : Str → Nat := tblN [("(", 1), ("@", 1), ("?", 1), ("{", 1), ("MODULE", 1), ("DESIGN", 2)]
def nHT : List (Str × Nat) := [("MODULES", 1), ("SIZENAMES", 1), ("MORENAMES", 1), ("SIZES", 1), ("MORENUMS", 1), ("ITEMS", 1), ("ITEM", 1), ("ELSE", 1), ("NAMED", 1), ("PORTS", 1), ("MOREPORTS", 1), ("PORT", 1), ("NUM", 1), ("NUMTAIL", 1), ("E", 1), ("TAIL", 1), ("PART", 1), ("CUTS", 1), ("ATOM", 1), ("AT", 1), ("BEHIND", 1), ("EWHOLE", 1), ("NUMWHOLE", 1), ("END", 1)]
def nH : Str → Nat := tblN nHT
theorem w_pay : payOk wF wH 252 = true := by decide +kernel
theorem f_pay : payOk fF fH 22 = true := by decide +kernel
theorem n_pay : payOk nF nH 1 = true := by decide +kernel
theorem w_le (s : Str) : wH s ≤ 252 := by
  unfold wH
  have := hh_le s
  omega
theorem f_le (s : Str) : fH s ≤ 22 := tblN_le (by decide +kernel) s
theorem n_le (s : Str) : nH s ≤ 1 := tblN_le (by decide +kernel) s
/-- the row that is taken when enough was drawn -/
def minRows (rows : List Row) : List Row := (rows.filter (fun r => r.2.isEmpty) ++ rows.drop (rows.length - 1)).take 1
theorem min_ok : (tab.all fun p => (minRows p.2).all fun r => decide (fsum wF r.2 < wF p.1) && decide (fsum fF r.2 ≤ fF p.1) && decide (fsum nF r.2 ≤ nF p.1)) = true := by decide +kernel
/-- all forms, signs and keywords -/
def SYMS : List Str := tab.map (·.1) ++ tab.flatMap fun p => p.2.flatMap fun r => r.2
theorem syms_row : (tab.all fun p => p.2.all fun r => r.2.all fun s => SYMS.contains s) = true := by decide +kernel
def special (s : Str) : Bool := s == "ANY" || s == "NAME" || s == "NUMPART" || s == "END"
theorem syms_ok : (SYMS.all fun s => (rowsOf s).isSome || special s || (decide (1 ≤ s.cps.toList.length) && decide (s.cps.toList.length ≤ 20) && decide (fgs s.cps.toList = 0) && decide (nsg s.cps.toList ≤ nF s) && decide (nsg s.cps.toList ≤ 1))) = true := by decide +kernel
theorem wt_pos : (wtab.all fun p => decide (1 ≤ p.2)) = true := by decide +kernel
theorem wF_pos (s : Str) : 1 ≤ wF s := by
  show 1 ≤ wt s
  unfold wt
  cases h : wtab.lookup s with
  | none => exact Nat.le_refl 1
  | some v => exact of_decide_eq_true (List.all_eq_true.mp wt_pos _ (lookup_mem h))
/-- words that may stand for ANY -/
def anyGood (hs : List Str) : Bool := (!hs.isEmpty && decide (hs.length ≤ 20)) && hs.all fun z => decide (1 ≤ z.cps.toList.length) && decide (z.cps.toList.length ≤ 20) && decide (fgs z.cps.toList = 0) && decide (nsg z.cps.toList = 0)
theorem any_rows : (tab.all fun p => p.2.all fun r => !(r.2.tail.contains "ANY") && (decide (r.2.take 1 ≠ (["ANY"] : List Str)) || (match r.1 with | none => false | some hs => anyGood hs))) = true := by decide +kernel
/-- what is bounded: so much drawn, so much to come -/
def Pot (f h : Str → Nat) (D c : Nat) (wd : List Nat → Nat) (ws : List (List Nat)) (st : List Str) : Prop := (ws.map wd).sum + fsum f st + (if ws.length ≤ 24 then htop h st else 0) ≤ c + D * min ws.length 25
section
variable {f h : Str → Nat} {D c : Nat} {wd : List Nat → Nat} {ws : List (List Nat)} {st : List Str} {s : Str}
theorem Pot.row {A : Str} {rows : List Row} {r : Row} (p : Pot f h D c wd ws (A :: st)) (ok : payOk f h D = true) (hD : ∀ s, h s ≤ D) (hr : rowsOf A = some rows) (hm : r ∈ rows) (hmin : 24 < ws.length → fsum f r.2 ≤ f A) : Pot f h D c wd ws (r.2 ++ st) := by
  unfold Pot at p ⊢
  by_cases c1 : ws.length ≤ 24
  · rw [if_pos c1] at p ⊢
    have z := pay_row ok hD hr hm st
    have e : htop h (A :: st) = h A := rfl
    omega
  · rw [if_neg c1] at p ⊢
    have z := hmin (by omega)
    rw [fsum_cons] at p
    rw [fsum_app]
    omega
theorem Pot.word {v : List Nat} (p : Pot f h D c wd ws (s :: st)) (hD : ∀ s, h s ≤ D) (hv : wd v ≤ f s) : Pot f h D c wd (ws ++ [v]) st := by
  unfold Pot at p ⊢
  rw [List.map_append, List.sum_append, List.length_append, List.length_singleton]
  rw [fsum_cons] at p
  have e : ([v].map wd).sum = wd v := by simp
  rw [e]
  have z := htop_le hD st
  by_cases c1 : ws.length + 1 ≤ 24
  · rw [if_pos c1]
    rw [if_pos (by omega)] at p
    rw [Nat.min_eq_left (by omega)] at p ⊢
    rw [Nat.mul_succ]
    omega
  · rw [if_neg c1]
    by_cases c2 : ws.length ≤ 24
    · rw [if_pos c2] at p
      rw [Nat.min_eq_left (by omega)] at p
      rw [Nat.min_eq_right (by omega)]
      have c3 : ws.length = 24 := by omega
      rw [c3] at p
      omega
    · rw [if_neg c2] at p
      rw [Nat.min_eq_right (by omega)] at p ⊢
      omega
theorem Pot.drop (p : Pot f h D c wd ws (s :: st)) (hD : ∀ s, h s ≤ D) (hs : h s = D) : Pot f h D c wd ws st := by
  unfold Pot at p ⊢
  rw [fsum_cons] at p
  have z := htop_le hD st
  by_cases c1 : ws.length ≤ 24
  · rw [if_pos c1] at p ⊢
    have e : htop h (s :: st) = h s := rfl
    omega
  · rw [if_neg c1] at p ⊢
    omega
theorem Pot.fin (p : Pot f h D c wd ws st) : (ws.map wd).sum + fsum f st ≤ c + D * 25 := by
  unfold Pot at p
  have z : D * min ws.length 25 ≤ D * 25 := Nat.mul_le_mul_left D (Nat.min_le_right _ _)
  omega
end
/-- all three -/
structure Pots (ws : List (List Nat)) (st : List Str) : Prop where
  w : Pot wF wH 252 130 (fun _ => 1) ws st
  f : Pot fF fH 22 8 fgs ws st
  n : Pot nF nH 1 2 nsg ws st
theorem Pots.row {ws : List (List Nat)} {st : List Str} {A : Str} {rows : List Row} {r : Row} (p : Pots ws (A :: st)) (hr : rowsOf A = some rows) (hm : r ∈ rows) (hmin : 24 < ws.length → r ∈ minRows rows) : Pots ws (r.2 ++ st) := by
  have m : 24 < ws.length → fsum wF r.2 < wF A ∧ fsum fF r.2 ≤ fF A ∧ fsum nF r.2 ≤ nF A := fun h => by
    have q := List.all_eq_true.mp (List.all_eq_true.mp min_ok _ (lookup_mem hr)) r (hmin h)
    simp only [Bool.and_eq_true, decide_eq_true_eq] at q
    exact ⟨q.1.1, q.1.2, q.2⟩
  exact ⟨p.w.row w_pay w_le hr hm fun h => Nat.le_of_lt (m h).1, p.f.row f_pay f_le hr hm fun h => (m h).2.1, p.n.row n_pay n_le hr hm fun h => (m h).2.2⟩
theorem Pots.word {ws : List (List Nat)} {st : List Str} {s : Str} {v : List Nat} (p : Pots ws (s :: st)) (h1 : fgs v ≤ fF s) (h2 : nsg v ≤ nF s) : Pots (ws ++ [v]) st := ⟨p.w.word w_le (wF_pos s), p.f.word f_le h1, p.n.word n_le h2⟩
theorem Pots.drop {ws : List (List Nat)} {st : List Str} (p : Pots ws ("END" :: st)) : Pots ws st := ⟨p.w.drop w_le (by decide +kernel), p.f.drop f_le (by decide +kernel), p.n.drop n_le (by decide +kernel)⟩
theorem ones (ws : List (List Nat)) : (ws.map fun _ => 1).sum = ws.length := by
  induction ws with
  | nil => rfl
  | cons a r ih => rw [List.map_cons, List.sum_cons, ih, List.length_cons]; omega
theorem Pots.count {ws : List (List Nat)} {st : List Str} (p : Pots ws st) : ws.length + fsum wF st ≤ 6430 := by
  have z := p.w.fin
  rw [ones] at z
  exact z
theorem st_len (st : List Str) : st.length ≤ fsum wF st := by
  induction st with
  | nil => exact Nat.zero_le _
  | cons a r ih =>
    rw [fsum_cons, List.length_cons]
    have := wF_pos a
    omega
/-- drawing ends -/
def mu (n : Nat) (st : List Str) : Nat := if n ≤ 24 then (25 - n) * 300 + fsum wF st + htop wH st else fsum wF st
theorem mu_row {n : Nat} {st : List Str} {A : Str} {rows : List Row} {r : Row} (hr : rowsOf A = some rows) (hm : r ∈ rows) (hmin : 24 < n → r ∈ minRows rows) : mu n (r.2 ++ st) < mu n (A :: st) := by
  unfold mu
  by_cases c : n ≤ 24
  · rw [if_pos c, if_pos c]
    have ok : rowOk A r.2 = true := List.all_eq_true.mp (List.all_eq_true.mp tab_ok _ (lookup_mem hr)) r hm
    have z := row_pays (st := st) ok
    have e1 : ∀ l, fsum wF l = wts l := fun _ => rfl
    have e2 : ∀ l, htop wH l = hd1 l * 28 := fun l => by
      cases l with
      | nil => rfl
      | cons a b => exact Nat.mul_comm _ _
    rw [e1, e1, e2, e2]
    omega
  · rw [if_neg c, if_neg c, fsum_app, fsum_cons]
    have q := List.all_eq_true.mp (List.all_eq_true.mp min_ok _ (lookup_mem hr)) r (hmin (by omega))
    simp only [Bool.and_eq_true, decide_eq_true_eq] at q
    have := q.1.1
    omega
theorem mu_word {n : Nat} {st : List Str} {s : Str} : mu (n + 1) st < mu n (s :: st) := by
  unfold mu
  have z := htop_le w_le st
  have w1 := wF_pos s
  rw [fsum_cons]
  by_cases c : n + 1 ≤ 24
  · rw [if_pos c, if_pos (by omega)]
    omega
  · rw [if_neg c]
    split <;> omega
theorem mu_drop {n : Nat} {st : List Str} : mu n st < mu n ("END" :: st) := by
  unfold mu
  have z := htop_le w_le st
  have w1 := wF_pos "END"
  have e : htop wH ("END" :: st) = 252 := by show wH "END" = 252; decide +kernel
  rw [fsum_cons]
  split <;> omega
end K04
end

section
set_option Elab.async false
set_option maxRecDepth 100000
set_option maxHeartbeats 4000000
set_option pp.maxSteps 2000
/-! K24: drawing a text's words. -/
namespace K04
open PySem L2 PyProof.Rows
def wdV (ws : List (List Nat)) : List V := ws.map fun v => V.str (S v)
theorem wdV_app (a b : List (List Nat)) : wdV (a ++ b) = wdV a ++ wdV b := List.map_append
theorem wdV_len (ws : List (List Nat)) : (wdV ws).length = ws.length := List.length_map _
/-- each word has a middling length -/
def WOk (ws : List (List Nat)) : Prop := ∀ v ∈ ws, 1 ≤ v.length ∧ v.length ≤ 20 ∧ nsg v ≤ 1
theorem WOk.snoc {ws : List (List Nat)} {v : List Nat} (h : WOk ws) (h1 : 1 ≤ v.length) (h2 : v.length ≤ 20) (h3 : nsg v ≤ 1) : WOk (ws ++ [v]) := fun u hu => by
  rcases List.mem_append.mp hu with m | m
  · exact h u m
  · rw [List.mem_singleton] at m
    rw [m]
    exact ⟨h1, h2, h3⟩
theorem Ks.lk {G : Addr → Prop} {s q : Addr} {H H' : Hp} (k : Ks s q H H') (g : ∀ b, G b → b ≠ s ∧ b ≠ q) : Lk G H H' := fun b xs hb e => k _ _ (g b hb).1 (g b hb).2 e
/-- a list that was not there at the start is written -/
theorem Ks.set {s q p : Addr} {H H1 : Hp} (k : Ks s q H H1) (h : H p = none) (o : HO) : Ks s q H (upd H1 p o) := fun b x h1 h2 e => by
  rw [upd_ne (fun z => by rw [z, h] at e; cases e)]
  exact k b x h1 h2 e
theorem Ks.none {s q p : Addr} {H H1 : Hp} (k : Ks s q H H1) (hS : SrcAt H s q) (h : H1 p = none) (hS1 : SrcAt H1 s q) : H p = none := by
  cases e : H p with
  | none => rfl
  | some o =>
    have n := hS1.new h
    rw [k p o n.1 n.2 e] at h
    cases h
structure AnyD (G : Addr → Prop) (H : Hp) (av : V) (st : List Str) : Prop where
  top : ∀ r : List Str, st = ("ANY" : Str) :: r → ∃ hs, StrsAt G H av hs ∧ anyGood hs = true
  rest : ("ANY" : Str) ∉ st.tail
theorem AnyD.sub {G : Addr → Prop} {H : Hp} {av av' : V} {s : Str} {st : List Str} (h : AnyD G H av (s :: st)) : AnyD G H av' st :=
  ⟨fun r e => absurd (show ("ANY" : Str) ∈ st by rw [e]; exact List.mem_cons_self) h.rest, fun m => h.rest (List.mem_of_mem_tail m)⟩
theorem AnyD.row {G : Addr → Prop} {H : Hp} {av a : V} {A : Str} {st : List Str} {rows : List Row} {r : Row} (h : AnyD G H av (A :: st)) (hr : rowsOf A = some rows) (hm : r ∈ rows) (ha : HeadAt G H a r.1) : AnyD G H (if r.2.take 1 = (["ANY"] : List Str) then a else av) (r.2 ++ st) := by
  have q := List.all_eq_true.mp (List.all_eq_true.mp any_rows _ (lookup_mem hr)) r hm
  rw [Bool.and_eq_true] at q
  obtain ⟨r1, r2⟩ := r
  cases r2 with
  | nil =>
    rw [if_neg (fun z => by cases z)]
    exact h.sub
  | cons s b =>
    refine ⟨fun r e => ?_, fun m => ?_⟩
    · have es : s = ("ANY" : Str) := (List.cons.inj e).1
      subst es
      rw [if_pos (show (("ANY" : Str) :: b).take 1 = (["ANY"] : List Str) from rfl)]
      have q2 := q.2
      cases r1 with
      | none => simp at q2
      | some hs => exact ⟨hs, ha, by simpa using q2⟩
    · rcases List.mem_append.mp m with m | m
      · have q1 := q.1
        have c : (b.contains ("ANY" : Str)) = true := List.contains_iff_mem.mpr m
        simp only [List.tail_cons, c] at q1
        cases q1
      · exact h.rest m
/-- a list's values that hold rows -/
theorem cut_last {x : List V} : cutV x (some (-1)) none = x.drop (x.length - 1) := by
  unfold cutV
  have e1 : HT.sIx x.length x.length none = x.length := rfl
  have e2 : HT.sIx x.length 0 (some (-1)) = x.length - 1 := by
    show (if (-1 : Int) < 0 then ((-1 : Int) + (x.length : Int)).toNat else min ((-1 : Int)).toNat x.length) = _
    rw [if_pos (by decide)]
    omega
  rw [e1, e2]
  exact List.take_of_length_le (by rw [List.length_drop]; omega)
theorem cut_first (x : List V) : cutV x none (some 1) = x.take 1 := by
  unfold cutV
  have e1 : HT.sIx x.length 0 none = 0 := rfl
  have e2 : HT.sIx x.length x.length (some 1) = min 1 x.length := HT.sIx_nat x.length x.length 1
  rw [e1, e2, List.drop_zero, Nat.sub_zero]
  rcases Nat.lt_or_ge x.length 1 with h | h
  · have : x = [] := List.length_eq_zero_iff.mp (by omega)
    subst this
    rfl
  · rw [Nat.min_eq_left h]
theorem paired_drop {α β : Type} {F : α → β → Prop} : ∀ (n : Nat) {l : List α} {m : List β}, Paired F l m → Paired F (l.drop n) (m.drop n)
  | 0, _, _, h => h
  | _ + 1, _, _, .nil => .nil
  | n + 1, _, _, .cons _ t => paired_drop n t
theorem paired_take {α β : Type} {F : α → β → Prop} : ∀ (n : Nat) {l : List α} {m : List β}, Paired F l m → Paired F (l.take n) (m.take n)
  | 0, _, _, _ => .nil
  | _ + 1, _, _, .nil => .nil
  | n + 1, _, _, .cons h t => .cons h (paired_take n t)
theorem paired_mem {α β : Type} {F : α → β → Prop} : ∀ {l : List α} {m : List β} {x : α}, Paired F l m → x ∈ l → ∃ y ∈ m, F x y
  | _, _, x, .cons (a := a) (b := b) h t, e => by
    rcases List.mem_cons.mp e with e | e
    · rw [e]
      exact ⟨b, List.mem_cons_self, h⟩
    · obtain ⟨y, hy, q⟩ := paired_mem t e
      exact ⟨y, List.mem_cons_of_mem _ hy, q⟩
section
variable {P : Program} {w : World} {K : PySem.W.Frag} {mg : Str → Option Value} {base : Heap}
theorem sc_lw_drawn_signs : FnScope ["_law_source_here", "_law_rules", "_law_form", "_law_stack", "_law_found", "_law_any_of", "_law_top", "_law_rows", "_law_row", "_law_some"] ["_law_source_here", "_law_rules", "_law_form"] (defScope (topS 64)) := ⟨rfl, rfl, rfl, by decide +kernel, rfl, by decide +kernel, by decide +kernel⟩
def spDrawn : Sp := fun vs H Q _ => ∃ (G : Addr → Prop) (s q d : Addr) (form : Str), vs = [.ref s, .ref d, .str form] ∧ SrcAt H s q ∧ RulesAt G H d ∧ (∀ b, G b → b ≠ s ∧ b ≠ q) ∧ d ≠ s ∧ form ∈ (["DESIGN", "EWHOLE", "NUMWHOLE"] : List Str) ∧
  ∀ p ws H', H' p = some (.lst (wdV ws)) → H p = none → WOk ws → ws.length ≤ 6430 → (ws.map fgs).sum ≤ 558 → (ws.map nsg).sum ≤ 27 → Ks s q H H' → SrcAt H' s q → Q (.ref p) H'
/-- the rows to draw from -/
theorem rows_few {s q d fa pr : Addr} {form x : Str} {a : Addr} {av : V} {G : Addr → Prop} {H0 H : Hp} {ws : List (List Nat)} {vs : List V} {rows : List Row} {D : Ends} {o8 o9 : Option V} (lk : Lk G H0 H)
    (hS : SrcAt H s q) (hfa : H fa = some (.lst (wdV ws))) (hpr : H pr = some (.lst vs)) (gp : pr ≠ s ∧ pr ≠ q) (prs : Paired (RowAt G H0) vs rows) (hne : rows ≠ []) (hl : rows.length ≤ 6)
    (k : ∀ H' p ys o, Same H H' → H' p = some (.lst ys) → p ≠ s → p ≠ q → ys ≠ [] → ys.length ≤ 6 → (∀ y ∈ ys, ∃ r ∈ rows, RowAt G H0 y r ∧ (24 < ws.length → r ∈ minRows rows)) →
      D.nx [some (.ref s), some (.ref d), some (.str form), some (.ref a), some (.ref fa), some av, some (.str x), some (.ref p), o, o9] H') :
    tIfS (tTest (tOp (rI0 fun i j => .bl (decide (j < i))) (tCB (fun xs H Q => ∃ p ys, xs = [.ref p] ∧ (SqL K H p ys ∨ SqT K H p ys) ∧ Q (.int ys.length) H) (tCons (tVar 4) tNil)) (tC (.int 24))))
      (tAsg (tSl (rSlL K) (tOp rCat (tLc (iList K (tVar 7)) (gName 8) (tTest (tOp (rNil K false) (tOp (rIxL K) (tVar 8) (tC (.int 1))) (tLst tNil))) (tVar 8) ([(("_law_row" : Str), 8)].map (·.2))) (tSl (rSlL K) (tVar 7) (tPart (tUn (rU fun i => .int (-i)) (tC (.int 1)))) tNoPart)) tNoPart (tPart (tC (.int 1)))) (gName 7)) tNext
      D [some (.ref s), some (.ref d), some (.str form), some (.ref a), some (.ref fa), some av, some (.str x), some (.ref pr), o8, o9] H := by
  refine ⟨_, rfl, fa, _, rfl, .inl (SqL.of hfa), _, _, rfl, rfl, _, rfl, ?_⟩
  rw [wdV_len]
  have lv := prs.length
  by_cases c : (24 : Int) < (ws.length : Nat)
  · rw [decide_eq_true c]
    refine iteT ⟨_, rfl, pr, rfl, ⟨_, SqL.of hpr⟩, fun Dl hD => ?_⟩
    refine lc_list (xs := vs) (fun i H' => Same H H' ∧ ∃ acc, H' Dl = some (.lst acc) ∧ Paired (RowAt G H0) acc ((rows.take i).filter (fun r => r.2.isEmpty))) ⟨same_up hD _, [], upd_same, .nil⟩ (fun i H' _ h => SqL.of (h.1 _ _ hpr)) ?_ ?_
    · rintro i y H6 hy ⟨s6, acc, e6, p6⟩
      obtain ⟨row, hrw, ra⟩ := paired_get prs hy
      obtain ⟨pw, aw, bw, rfl, ew, _, _, pb, rfl, eb, _⟩ := ra.lk lk (fun _ h => h)
      have et : rows.take (i + 1) = rows.take i ++ [row] := take_succ_of hrw
      refine ⟨rfl, ?_⟩
      refine ⟨_, rfl, pw, _, 1, .ref pb, rfl, rfl, SqL.of (s6 _ _ ew), atI_nat (j := 1) rfl, fit3 (Nat.zero_le _), fun e he => ⟨pb, e, _, rfl, rfl, SqL.of (same_up he _ _ _ (s6 _ _ eb)), SqL.of upd_same, _, rfl, ?_⟩⟩
      have eD : (upd H6 e (.lst [])) Dl = some (.lst acc) := same_up he _ _ _ e6
      have s7 := s6.trans (same_up he (.lst []))
      have em : (row.2.map V.str).isEmpty = row.2.isEmpty := by cases row.2 <;> rfl
      cases hf : row.2.isEmpty with
      | true =>
        refine iteT_of (b := (row.2.map V.str).isEmpty) (em.trans hf) ⟨_, rfl, acc, eD, ?_, fun b o e => ?_, _, upd_same, ?_⟩
        · rw [p6.length]
          have l1 := List.length_filter_le (fun r : Row => r.2.isEmpty) (rows.take i)
          have l2 : (rows.take i).length ≤ rows.length := List.length_take_le' i rows
          exact Nat.lt_of_le_of_lt (show _ ≤ 6 by omega) (by decide)
        · rw [upd_ne (fun z => by rw [z] at e; rw [e] at hD; cases hD)]
          exact s7 _ _ e
        · rw [et, List.filter_append, show [row].filter (fun r : Row => r.2.isEmpty) = [row] by simp [hf]]
          exact paired_app p6 (.cons ra .nil)
      | false =>
        refine iteF_of (b := (row.2.map V.str).isEmpty) (em.trans hf) ⟨s7, acc, eD, ?_⟩
        rw [et, List.filter_append, show [row].filter (fun r : Row => r.2.isEmpty) = [] by simp [hf], List.append_nil]
        exact p6
    · rintro H6 ⟨s6, acc, e6, p6⟩
      rw [lv, List.take_length] at p6
      refine ⟨_, rfl, 1, rfl, _, rfl, pr, _, rfl, SqL.of (s6 _ _ hpr), fun p hp => ?_⟩
      rw [show (-(1 : Int)) = (-1 : Int) from rfl, cut_last, lv]
      have la : acc.length ≤ 6 := by
        rw [p6.length]
        exact Nat.le_trans (List.length_filter_le _ _) hl
      have hp6 := same_up hp (.lst (vs.drop (rows.length - 1))) _ _ e6
      refine ⟨Dl, p, acc, _, rfl, rfl, hp6, upd_same, fit3 (by rw [List.length_drop]; omega), fun p2 hp2 => ?_⟩
      refine ⟨_, rfl, p2, _, rfl, SqL.of upd_same, fun p3 hp3 => ?_⟩
      rw [cut_first]
      have s9 := s6.trans ((same_up hp (.lst (vs.drop (rows.length - 1)))).trans ((same_up hp2 (.lst (acc ++ vs.drop (rows.length - 1)))).trans (same_up hp3 (.lst ((acc ++ vs.drop (rows.length - 1)).take 1)))))
      have hp3' : H p3 = none := sm_none s6 (sm_none (same_up hp _) (sm_none (same_up hp2 _) hp3))
      have n3 := hS.new hp3'
      have pm : Paired (RowAt G H0) ((acc ++ vs.drop (rows.length - 1)).take 1) (minRows rows) := paired_take 1 (paired_app p6 (paired_drop _ prs))
      have sub : ∀ r ∈ minRows rows, r ∈ rows := fun r hr => by
        rcases List.mem_append.mp (List.mem_of_mem_take hr) with m | m
        · exact (List.mem_filter.mp m).1
        · exact List.mem_of_mem_drop m
      have mn : minRows rows ≠ [] := fun e => by
        have l3 : (minRows rows).length = 0 := by rw [e]; rfl
        unfold minRows at l3
        rw [List.length_take, List.length_append, List.length_drop] at l3
        have := List.length_pos_iff.mpr hne
        omega
      refine k _ p3 _ _ s9 upd_same n3.1 n3.2 (fun e => ?_) ?_ (fun y hy => ?_)
      · rw [e] at pm
        exact mn (List.length_eq_zero_iff.mp pm.length.symm)
      · exact Nat.le_trans (List.length_take_le _ _) (by decide)
      · obtain ⟨r, hr, ra⟩ := paired_mem pm hy
        exact ⟨r, sub r hr, ra, fun _ => hr⟩
  · rw [decide_eq_false c]
    refine iteF (k _ pr vs o8 (Same.refl _) hpr gp.1 gp.2 (fun e => ?_) (by omega) (fun y hy => ?_))
    · rw [e] at lv
      exact hne (List.length_eq_zero_iff.mp lv.symm)
    · obtain ⟨r, hr, ra⟩ := paired_mem prs hy
      exact ⟨r, hr, ra, fun z => absurd (by omega) c⟩
theorem body_ok : (tab.all fun p => p.2.all fun r => SeqAt.shaped (.list ((r.2.take 1).map PyData.str))) = true := by decide +kernel
theorem any_shaped : SeqAt.shaped (.list [.str "ANY"]) = true := by decide +kernel
theorem eqv_any (b : List Str) (hb : SeqAt.shaped (.list ((b.take 1).map PyData.str)) = true) : ∃ ds, (b.take 1).map PyData.str = ds ∧ SeqAt.shaped (.list ds) = true ∧ PyData.eqv (.list ds) (.list [.str "ANY"]) = decide (b.take 1 = (["ANY"] : List Str)) := by
  refine ⟨_, rfl, hb, ?_⟩
  · cases b with
    | nil => rfl
    | cons z b =>
      show (z == ("ANY" : Str) && true) = decide ([z] = (["ANY"] : List Str))
      rw [Bool.and_true]
      by_cases h : z = ("ANY" : Str)
      · subst h
        decide +kernel
      · rw [beq_eq_false_iff_ne.mpr h, decide_eq_false (fun e => h (List.cons.inj e).1)]
theorem dpAll_strs {K : PySem.W.Frag} {H : Hp} : ∀ zs : List Str, DpAll K H (zs.map V.str) (zs.map PyData.str)
  | [] => .nil
  | z :: zs => .cons (.str z) (dpAll_strs zs)
theorem any_of_te {pw pb : Addr} {aw av : V} {b : List Str} {H : Hp} {σ : L2.St} {Q : VK} (h5 : σ[5]? = some (some av)) (h8 : σ[8]? = some (some (.ref pw))) (ew : H pw = some (.lst [aw, .ref pb])) (eb : H pb = some (.lst (b.map V.str))) (hb : SeqAt.shaped (.list ((b.take 1).map PyData.str)) = true)
    (k : ∀ H', Same H H' → Q (if b.take 1 = (["ANY"] : List Str) then aw else av) H') :
    tIf (tTest (tOp (rEqD K) (tSl (rSlL K) (tOp (rIxL K) (tVar 8) (tC (.int 1))) tNoPart (tPart (tC (.int 1)))) (tLst (tCons (tC (.str "ANY")) tNil)))) (tOp (rIxL K) (tVar 8) (tC (.int 0))) (tVar 5) σ H Q := by
  refine ⟨_, h8, pw, _, 1, .ref pb, rfl, rfl, SqL.of ew, atI_nat (j := 1) rfl, _, rfl, pb, _, rfl, SqL.of eb, fun pt hpt => ⟨fit3 (by show 1 ≤ 10; decide), fun pu hpu => ?_⟩⟩
  rw [cut_first, ← List.map_take] at hpu ⊢
  obtain ⟨ds, e1, e2, e3⟩ := eqv_any b hb
  have s1 := same_up hpt (.lst ((b.take 1).map V.str))
  have s2 := same_up hpu (.lst [.str "ANY"])
  subst e1
  refine ⟨_, _, .lst (SqL.of (s2 _ _ upd_same)) (dpAll_strs (b.take 1)), .lst (SqL.of upd_same) (.cons (.str "ANY") .nil), e2, any_shaped, _, rfl, ?_⟩
  have z := k _ (s1.trans s2)
  by_cases c : b.take 1 = (["ANY"] : List Str)
  · refine iteT_of (b := PyData.eqv _ _) (e3.trans (decide_eq_true c)) ⟨_, h8, pw, _, 0, aw, rfl, rfl, SqL.of ((s1.trans s2) _ _ ew), atI_nat (j := 0) rfl, ?_⟩
    rw [if_pos c] at z
    exact z
  · refine iteF_of (b := PyData.eqv _ _) (e3.trans (decide_eq_false c)) ⟨_, h5, ?_⟩
    rw [if_neg c] at z
    exact z
theorem ok_lw_drawn_signs (Z : LwTx K mg) : FnOk P w K mg base CX0 4 Z.lw_drawn_signs.f Z.lw_drawn_signs.fd ["_law_source_here", "_law_rules", "_law_form"] spDrawn := by
  have G_lw_of := ok_lw_of (w := w) (P := P) (base := base) Z
  have G_lw_any_name := ok_lw_any_name (w := w) (P := P) (base := base) Z
  refine Z.lw_drawn_signs.F.ok sc_lw_drawn_signs (fun vs H Q E h => ?_) (fun cdv A outer s H vs Q E hr h => ?_)
  · obtain ⟨_, s, q, d, form, rfl, _⟩ := h
    rfl
  obtain ⟨G, s, q, d, form, rfl, hS, hR, hG, ds, hform, k⟩ := h
  have nd := sc_lw_drawn_signs.nd
  have dq : d ≠ q := fun e => by
    obtain ⟨kvs, h1, _⟩ := hR
    obtain ⟨_, _, _, _, _, h2⟩ := hS.ex
    rw [e, h2] at h1
    cases h1
  refine ⟨_, (pss_cons (ps_par3 (i := 3) (j := 4) (l := 5) rfl nd rfl rfl rfl (by decide) (by decide) (by decide) rfl rfl rfl (pa_cons (pe_lst (pa_cons (pv 2) pa_nil)) (pa_cons (pe_lst pa_nil) (pa_cons (pe_lst pa_nil) pa_nil))) (by rfl))
    (pss_cons (ps_while PassesOwn.never (pt_cmpR (op_neNil hr.units0) (pv 3) (pe_lst pa_nil) (nomark _)) (pss_cons (ps_set (i := 6) nd rfl (.inl rfl) (pe_bm0 PySem.F.plainAttrs_list PySem.F.slot_list_pop PySem.F.type_list_pop mt_pop (pv 3)))
    (pss_one (ps_if (pt_cmp (pc_din (hu_of hr) (pv 6) (pv 1))) (pss_cons (ps_set (i := 7) nd rfl (.inl rfl) (pe_dget (hu_of hr) (pv 1) (pv 6) (fun _ _ => rfl)))
    (pss_cons (ps_if (pt_cmpR op_gt (pe_callB call_len_seq (by rfl) Z.m_len PySem.boot_len (pa_cons (pv 4) pa_nil)) pe_int (nomark _)) (pss_one (ps_set (i := 7) nd rfl (.inl rfl) (pe_slice sl_list (pe_op op_cat (pe_lc (own := [("_law_row", 8)]) rfl nd (pi_list (pv 7)) (blkOk_by (own := [("_law_row", 8)]) (N := ["_law_source_here", "_law_rules", "_law_form", "_law_stack", "_law_found", "_law_any_of", "_law_top", "_law_rows", "_law_row", "_law_some"]) (sc := defScope (topS 64)) (by decide +kernel)) (fun _ _ _ _ _ => pg_name (i := 8) nd rfl (Or.inl rfl)) (fun _ _ _ _ _ => pts_one (pt_cmpR (r := rNil K false) (op_eqNil hr.units0) (pe_ix (r := rIxL K) ix_list (pv 8) pe_int (fun _ _ => rfl)) (pe_lst pa_nil) (nomark _))) (fun _ _ _ _ _ => pv 8)) (pe_slice sl_list (pv 7) (po_some (pe_un un_neg pe_int)) po_none)) po_none (po_some pe_int)))) pss_nil)
    (pss_cons (ps_set (i := 8) nd rfl (.inl rfl) (pe_call G_lw_of (hr.mono (by omega)) rfl Z.lw_of.g Z.lw_of.F.kp Z.lw_of.b .nil pass0 (pa_cons (pv 0) (pa_cons (pv 7) pa_nil))))
    (pss_cons (ps_set (i := 5) nd rfl (.inl rfl) (pe_ifExp (pt_cmpR (op_eqD hr.units) (pe_slice sl_list (pe_ix ix_list (pv 8) pe_int (fun _ _ => rfl)) po_none (po_some pe_int)) (pe_lst (pa_cons pe_str pa_nil)) (nomark _)) (pe_ix ix_list (pv 8) pe_int (fun _ _ => rfl)) (pv 5)))
    (pss_one (ps_set (i := 3) nd rfl (.inl rfl) (pe_op op_cat (pv 3) (pe_revL (pe_ix ix_list (pv 8) pe_int (fun _ _ => rfl)))))))))) (pss_one (ps_if (pt_cmpR op_eq (pv 6) pe_str (nomark _)) (pss_one (ps_expr (pe_bm PySem.F.plainAttrs_list PySem.F.slot_list_append PySem.F.type_list_append mt_append (pv 4) (pa_cons (pe_call G_lw_of (hr.mono (by omega)) rfl Z.lw_of.g Z.lw_of.F.kp Z.lw_of.b .nil pass0 (pa_cons (pv 0) (pa_cons (pv 5) pa_nil))) pa_nil)))) (pss_one (ps_if (pt_cmpR op_ne (pv 6) pe_str (nomark _)) (pss_cons (ps_set (i := 9) nd rfl (.inl rfl) (pe_disp (pps_cons pe_str (pe_lst (pa_cons (pe_call G_lw_any_name (hr.mono (by omega)) rfl Z.lw_any_name.g Z.lw_any_name.F.kp Z.lw_any_name.b .nil pass0 (pa_cons (pv 0) pa_nil)) pa_nil)) (pps_cons pe_str (pe_lst (pa_cons pe_str (pa_cons pe_str (pa_cons pe_str (pa_cons pe_str (pa_cons pe_str (pa_cons pe_str pa_nil))))))) pps_nil)) (by rfl) (by rfl) (fun z => by cases z) (by decide)))
    (pss_one (ps_expr (pe_bm PySem.F.plainAttrs_list PySem.F.slot_list_append PySem.F.type_list_append mt_append (pv 4) (pa_cons (pe_call G_lw_of (hr.mono (by omega)) rfl Z.lw_of.g Z.lw_of.F.kp Z.lw_of.b .nil pass0 (pa_cons (pv 0) (pa_cons (pe_dget2 (hu_of hr) (pv 9) (pv 6) (pe_lst (pa_cons (pv 6) pa_nil)) ⟨rfl, rfl, rfl, rfl⟩) pa_nil))) pa_nil))))) pss_nil))))))))
    (pss_one (ps_ret (pv 4))))), ?_⟩
  have hfm : rowsOf form ≠ none ∧ form ∈ SYMS ∧ form ≠ ("ANY" : Str) ∧ Pots [] [form] := by
    have c : ∀ f ∈ (["DESIGN", "EWHOLE", "NUMWHOLE"] : List Str), rowsOf f ≠ none ∧ f ∈ SYMS ∧ f ≠ ("ANY" : Str) ∧ fsum wF [f] + wH f ≤ 130 ∧ fsum fF [f] + fH f ≤ 8 ∧ fsum nF [f] + nH f ≤ 2 := by decide +kernel
    obtain ⟨c1, c2, c3, c4, c5, c6⟩ := c form hform
    refine ⟨c1, c2, c3, ?_, ?_, ?_⟩
    · show 0 + fsum wF [form] + wH form ≤ 130 + 252 * 0
      omega
    · show 0 + fsum fF [form] + fH form ≤ 8 + 22 * 0
      omega
    · show 0 + fsum nF [form] + nH form ≤ 2 + 1 * 0
      omega
  obtain ⟨_, fm2, fm3, fm4⟩ := hfm
  -- stack, found, any_of = [form], [], []
  refine ⟨_, rfl, fit3 (by show 1 ≤ 10; decide), fun a ha => ⟨fit3 (Nat.zero_le _), fun fa hfa => ⟨fit3 (Nat.zero_le _), fun ay hay => ⟨_, _, _, rfl, ?_⟩⟩⟩⟩
  have s1 := same_up ha (.lst [.str form])
  have s2 := s1.trans (same_up hfa (.lst []))
  have s3 := s2.trans (same_up hay (.lst []))
  have ne0 : a ≠ fa := fun e => by rw [← e, upd_same] at hfa; cases hfa
  refine ⟨fun m σ H' => ∃ (st : List Str) (ws : List (List Nat)) (a fa : Addr) (av : V) (o6 o7 o8 o9 : Option V), σ = [some (.ref s), some (.ref d), some (.str form), some (.ref a), some (.ref fa), some av, o6, o7, o8, o9] ∧ m = mu ws.length st ∧ Ks s q H H' ∧ SrcAt H' s q ∧ H a = none ∧ H fa = none ∧ a ≠ fa ∧ H' a = some (.lst (stkV st)) ∧ H' fa = some (.lst (wdV ws)) ∧ WOk ws ∧ Pots ws st ∧ (∀ x ∈ st, x ∈ SYMS) ∧ AnyD G H av st,
    ⟨_, [form], [], a, fa, .ref ay, _, _, _, _, rfl, rfl, Ks.same s3, hS.same s3, ha, sm_none s1 hfa, ne0, (same_up hay _) _ _ ((same_up hfa _) _ _ upd_same), (same_up hay _) _ _ upd_same, fun v hv => absurd hv List.not_mem_nil, fm4,
      fun x hx => by rw [List.mem_singleton.mp hx]; exact fm2, ⟨fun r e => absurd (List.cons.inj e).1 fm3, List.not_mem_nil⟩⟩, ?_⟩
  clear s1 s2 s3 hay hfa ha ne0 a fa ay
  rintro m σ H3 ⟨st, ws, a, fa, av, o6, o7, o8, o9, rfl, rfl, ks, hS3, na, nfa, afa, ha, hfa, wok, pots, hsym, hany⟩
  refine ⟨_, rfl, fit3 (Nat.zero_le _), fun e he => ⟨a, e, _, rfl, rfl, SqL.of (same_up he _ _ _ ha), SqL.of upd_same, _, rfl, ?_⟩⟩
  have se := same_up he (.lst [])
  have ks := ks.trans (Ks.same se)
  have hS3 := hS3.same se
  have ha := se _ _ ha
  have hfa := se _ _ hfa
  clear se
  generalize upd H3 e (.lst []) = H4 at ks hS3 ha hfa ⊢
  cases st with
  | nil =>
    refine iteF ⟨_, rfl, ?_⟩
    have z1 := pots.w.fin
    have z2 := pots.f.fin
    have z3 := pots.n.fin
    rw [ones] at z1
    have e0 : fsum wF [] = 0 := rfl
    have e1 : fsum fF [] = 0 := rfl
    have e2 : fsum nF [] = 0 := rfl
    exact k fa ws _ hfa nfa wok (by omega) (by omega) (by omega) ks hS3
  | cons x st =>
    refine iteT_of (b := !(stkV (x :: st)).isEmpty) (by rw [stkV_cons]; cases stkV st <;> rfl) ?_
    refine ⟨fun σ' H' => ∃ m', m' < mu ws.length (x :: st) ∧ ∃ (st : List Str) (ws : List (List Nat)) (a fa : Addr) (av : V) (o6 o7 o8 o9 : Option V), σ' = [some (.ref s), some (.ref d), some (.str form), some (.ref a), some (.ref fa), some av, o6, o7, o8, o9] ∧ m' = mu ws.length st ∧ Ks s q H H' ∧ SrcAt H' s q ∧ H a = none ∧ H fa = none ∧ a ≠ fa ∧ H' a = some (.lst (stkV st)) ∧ H' fa = some (.lst (wdV ws)) ∧ WOk ws ∧ Pots ws st ∧ (∀ x ∈ st, x ∈ SYMS) ∧ AnyD G H av st, fun _ _ h => h, ?_⟩
    rw [stkV_cons] at ha
    have gl : (stkV st ++ [V.str x])[(stkV st ++ [V.str x]).length - 1]? = some (.str x) := by simp
    have asq : a ≠ s ∧ a ≠ q := by
      exact hS.new na
    refine ⟨_, rfl, lst_ty ha, a, _, .str x, rfl, rfl, ha, gl, ?_⟩
    rw [List.dropLast_concat]
    have ks5 : Ks s q H (upd H4 a (.lst (stkV st))) := ks.set na _
    have hS5 : SrcAt (upd H4 a (.lst (stkV st))) s q := hS3.set asq.1 asq.2 _
    have ha5 : (upd H4 a (.lst (stkV st))) a = some (.lst (stkV st)) := upd_same
    have hf5 : (upd H4 a (.lst (stkV st))) fa = some (.lst (wdV ws)) := by
      rw [upd_ne (Ne.symm afa)]
      exact hfa
    clear ha hfa ks hS3
    generalize upd H4 a (.lst (stkV st)) = H5 at ks5 hS5 ha5 hf5 ⊢
    obtain ⟨kvs, hd, hro⟩ := hR
    have hd5 := ks5 _ _ ds dq hd
    have dg := DGet.k (k := .inr x) hd5
    have hsx := hsym x List.mem_cons_self
    have hsr : ∀ y ∈ st, y ∈ SYMS := fun y hy => hsym y (List.mem_cons_of_mem _ hy)
    have lk5 : Lk G H H5 := ks5.lk hG
    have cnt := pots.count
    have fasq := hS.new nfa
    refine ⟨_, rfl, _, rfl, d, _, rfl, dg, _, rfl, ?_⟩
    cases hrow : rowsOf x with
    | some rows =>
      have hro5 := hro x
      rw [hrow] at hro5
      cases hv : valV kvs (.inr x) with
      | none => rw [hv] at hro5; exact hro5.elim
      | some v =>
        rw [hv] at hro5 dg
        refine iteT ?_
        obtain ⟨pr, vs, rfl, er, gr, prs⟩ := hro5
        have er5 := lk5 _ _ gr er
        refine ⟨_, rfl, _, rfl, d, _, rfl, dg, ?_⟩
        have l6 : rows.length ≤ 6 := of_decide_eq_true (List.all_eq_true.mp rows_6 _ (lookup_mem hrow))
        have hne : rows ≠ [] := fun e => by
          obtain ⟨r, hm, _⟩ := row_mem (x := x) hrow
          rw [e] at hm
          cases hm
        refine rows_few lk5 hS5 hf5 er5 (hG _ gr) prs hne l6 fun H6 p ys o s6 ep p1 p2 yne yl yr => ?_
        refine ⟨_, rfl, _, rfl, s, q, p, ys, rfl, hS5.same s6, ep, p1, p2, yne, by omega, fun y H7 hy ks7 hS7 => ?_⟩
        obtain ⟨r, hr, ra, hmin⟩ := yr y hy
        have ks8 : Ks s q H H7 := ks5.trans ((Ks.same s6).trans ks7)
        have ks57 : Ks s q H5 H7 := (Ks.same s6).trans ks7
        obtain ⟨pw, aw, bw, rfl, ew, gw, haw, pb, rfl, eb, gb⟩ := ra
        have ew7 := ks8.lk hG _ _ gw ew
        have eb7 := ks8.lk hG _ _ gb eb
        have ha7 := ks57 _ _ asq.1 asq.2 ha5
        have hf7 := ks57 _ _ fasq.1 fasq.2 hf5
        -- any_of
        refine any_of_te rfl rfl ew7 eb7 (List.all_eq_true.mp (List.all_eq_true.mp body_ok _ (lookup_mem hrow)) r hr) fun H8 s8 => ?_
        have s8f := s8
        refine ⟨_, rfl, _, rfl, pw, _, 1, .ref pb, rfl, rfl, SqL.of (s8 _ _ ew7), atI_nat (j := 1) rfl, pb, _, rfl, SqL.of (s8 _ _ eb7), fun p9 hp9 => ?_⟩
        rw [show (r.2.map V.str).reverse = stkV r.2 from by unfold stkV; rw [List.map_reverse]]
        have s9 := s8.trans (same_up hp9 (.lst (stkV r.2)))
        have pots2 := pots.row hrow hr hmin
        have cnt2 := pots2.count
        have sl2 := st_len (r.2 ++ st)
        rw [List.length_append] at sl2
        refine ⟨a, p9, _, _, rfl, rfl, s9 _ _ ha7, upd_same, ?_, fun p10 hp10 => ?_⟩
        · rw [stkV_len, stkV_len]
          exact Nat.le_trans (show st.length + r.2.length ≤ 6430 by omega) (by decide)
        rw [← stkV_app]
        have s10 := s9.trans (same_up hp10 (.lst (stkV (r.2 ++ st))))
        have hp7 := sm_none s9 hp10
        refine ⟨mu ws.length (r.2 ++ st), mu_row hrow hr hmin, r.2 ++ st, ws, p10, fa, _, _, _, _, _, rfl, rfl, ks8.trans (Ks.same s10), hS7.same s10, ks8.none hS hp7 hS7, nfa, (fun e => by rw [e, hf7] at hp7; cases hp7), upd_same, s10 _ _ hf7, wok, pots2, fun y hy => ?_, hany.row hrow hr haw⟩
        rcases List.mem_append.mp hy with m | m
        · exact List.contains_iff_mem.mp (List.all_eq_true.mp (List.all_eq_true.mp (List.all_eq_true.mp syms_row _ (lookup_mem hrow)) r hr) y m)
        · exact hsr y m
    | none =>
      have hro5 := hro x
      rw [hrow] at hro5
      cases hv : valV kvs (.inr x) with
      | some v => rw [hv] at hro5; exact hro5.elim
      | none =>
        refine iteF ?_
        -- elif top == 'ANY'
        refine ⟨_, rfl, rfl, _, rfl, ?_⟩
        rw [eqS]
        by_cases cA : x = ("ANY" : Str)
        · subst cA
          rw [decide_eq_true rfl]
          refine iteT ?_
          obtain ⟨hs, ⟨pz, rfl, ez, gz⟩, good⟩ := hany.top st rfl
          have ez5 := lk5 _ _ gz ez
          rw [anyGood, Bool.and_eq_true] at good
          have gne : hs ≠ [] := fun e => by rw [e] at good; cases good.1
          have hl1000 : hs.length ≤ 16777216 := by
            have g := good.1
            rw [Bool.and_eq_true, decide_eq_true_eq] at g
            omega
          refine ⟨_, rfl, lst_ty hf5, _, rfl, _, rfl, s, q, pz, _, rfl, hS5, ez5, (hG _ gz).1, (hG _ gz).2, (fun e => gne (List.map_eq_nil_iff.mp e)), (by rw [List.length_map]; exact hl1000), fun y H6 hy ks6 hS6 => ?_⟩
          obtain ⟨z, hz, rfl⟩ := List.mem_map.mp hy
          have gz2 := List.all_eq_true.mp good.2 z hz
          simp only [Bool.and_eq_true, decide_eq_true_eq] at gz2
          obtain ⟨⟨⟨g1, g2⟩, g3⟩, g4⟩ := gz2
          have hf6 := ks6 _ _ fasq.1 fasq.2 hf5
          have ha6 := ks6 _ _ asq.1 asq.2 ha5
          refine ⟨fa, _, _, rfl, rfl, hf6, by rw [wdV_len]; exact Nat.lt_of_le_of_lt (show ws.length ≤ 6430 by omega) (by decide), ?_⟩
          have ew : wdV ws ++ [V.str z] = wdV (ws ++ [z.cps.toList]) := by
            rw [wdV_app]
            show _ = wdV ws ++ [V.str (S z.cps.toList)]
            rw [S_of]
          rw [ew]
          refine ⟨mu (ws.length + 1) st, mu_word, st, ws ++ [z.cps.toList], a, fa, .ref pz, _, _, _, _, rfl, by rw [List.length_append]; rfl, (ks5.trans ks6).set nfa _, hS6.set fasq.1 fasq.2 _, na, nfa, afa, by rw [upd_ne afa]; exact ha6, upd_same, wok.snoc g1 g2 (by rw [g4]; exact Nat.zero_le _), pots.word (by rw [g3]; exact Nat.zero_le _) (by rw [g4]; exact Nat.zero_le _), hsr, hany.sub⟩
        rw [decide_eq_false cA]
        refine iteF ⟨_, rfl, rfl, _, rfl, ?_⟩
        have en : (!decide (V.str x = V.str ("END" : Str))) = !decide (x = ("END" : Str)) := by rw [eqS]
        rw [en]
        by_cases cE : x = ("END" : Str)
        · subst cE
          rw [decide_eq_true rfl]
          refine iteF ⟨mu ws.length st, mu_drop, st, ws, a, fa, av, _, _, _, _, rfl, rfl, ks5, hS5, na, nfa, afa, ha5, hf5, wok, pots.drop, hsr, hany.sub⟩
        rw [decide_eq_false cE]
        refine iteT ?_
        -- some = {..}
        intro u hu
        have nu := hS5.new hu
        have su := same_up hu (.dK [])
        have fin : ∀ (H9 : Hp) (v : List Nat) (o7 o8 o9 : Option V), 1 ≤ v.length → v.length ≤ 20 → fgs v ≤ fF x → nsg v ≤ nF x → nsg v ≤ 1 → Ks s q H5 H9 → SrcAt H9 s q → ∃ (l : Addr) (xs : List V) (y : V), V.ref fa = .ref l ∧ [V.str (S v)] = [y] ∧ H9 l = some (.lst xs) ∧ xs.length < sizeLine ∧
            ∃ m', m' < mu ws.length (x :: st) ∧ ∃ (st : List Str) (ws : List (List Nat)) (a' fa' : Addr) (av' : V) (p6 p7 p8 p9 : Option V), [some (.ref s), some (.ref d), some (.str form), some (.ref a), some (.ref fa), some av, some (.str x), o7, o8, o9] = [some (.ref s), some (.ref d), some (.str form), some (.ref a'), some (.ref fa'), some av', p6, p7, p8, p9] ∧ m' = mu ws.length st ∧ Ks s q H (upd H9 l (.lst (xs ++ [y]))) ∧ SrcAt (upd H9 l (.lst (xs ++ [y]))) s q ∧ H a' = none ∧ H fa' = none ∧ a' ≠ fa' ∧ (upd H9 l (.lst (xs ++ [y]))) a' = some (.lst (stkV st)) ∧ (upd H9 l (.lst (xs ++ [y]))) fa' = some (.lst (wdV ws)) ∧ WOk ws ∧ Pots ws st ∧ (∀ x ∈ st, x ∈ SYMS) ∧ AnyD G H av' st := by
          intro H9 v o7 o8 o9 l1 l2 l3 l4 l5 ks9 hS9
          have hf9 := ks9 _ _ fasq.1 fasq.2 hf5
          have ha9 := ks9 _ _ asq.1 asq.2 ha5
          refine ⟨fa, _, _, rfl, rfl, hf9, by rw [wdV_len]; exact Nat.lt_of_le_of_lt (show ws.length ≤ 6430 by omega) (by decide), ?_⟩
          have ew : wdV ws ++ [V.str (S v)] = wdV (ws ++ [v]) := by
            rw [wdV_app]
            rfl
          rw [ew]
          exact ⟨mu (ws.length + 1) st, mu_word, st, ws ++ [v], a, fa, av, _, _, _, _, rfl, by rw [List.length_append]; rfl, (ks5.trans ks9).set nfa _, hS9.set fasq.1 fasq.2 _, na, nfa, afa, by rw [upd_ne afa]; exact ha9, upd_same, wok.snoc l1 l2 l5, pots.word l3 l4, hsr, hany.sub⟩
        refine ⟨_, rfl, s, q, rfl, hS5.same su, fun v H6 nv ks6 hS6 => ⟨fit3 (by show 1 ≤ 10; decide), fun p1 hp1 => ⟨fit3 (by show 6 ≤ 10; decide), fun p2 hp2 => ?_⟩⟩⟩
        have u6 : H6 u = some (.dK []) := ks6 _ _ nu.1 nu.2 upd_same
        have sp1 := same_up hp1 (.lst [.str (S v)])
        have sp2 := same_up hp2 (.lst [.str "0", .str "1", .str "7", .str "305", .str "n", .str "w"])
        refine ⟨sp2 _ _ (sp1 _ _ u6), [(.inr "NAME", .ref p1), (.inr "NUMPART", .ref p2)], rfl, (by show 2 ≤ 15; decide), ?_⟩
        have ep1 := sp2 _ _ (upd_same (H := H6) (a := p1) (o := .lst [.str (S v)]))
        have ep2 : (upd (upd H6 p1 (.lst [.str (S v)])) p2 (.lst [.str "0", .str "1", .str "7", .str "305", .str "n", .str "w"])) p2 = some (.lst [.str "0", .str "1", .str "7", .str "305", .str "n", .str "w"]) := upd_same
        have ks7 : Ks s q H5 (upd (upd H6 p1 (.lst [.str (S v)])) p2 (.lst [.str "0", .str "1", .str "7", .str "305", .str "n", .str "w"])) := (Ks.same su).trans (ks6.trans ((Ks.same sp1).trans (Ks.same sp2)))
        have hS7 := (hS6.same sp1).same sp2
        have u7 := sp2 _ _ (sp1 _ _ u6)
        have n1 := hS6.new hp1
        have n2 := (hS6.same sp1).new hp2
        generalize upd (upd H6 p1 (.lst [.str (S v)])) p2 (.lst [.str "0", .str "1", .str "7", .str "305", .str "n", .str "w"]) = H7 at ep1 ep2 ks7 hS7 u7 ⊢
        have em : mergeK [] [((.inr "NAME" : Key), V.ref p1), (.inr "NUMPART", .ref p2)] = [((.inr "NAME" : Key), V.ref p1), (.inr "NUMPART", .ref p2)] := rfl
        rw [em]
        have e8 : (upd H7 u (.dK [((.inr "NAME" : Key), V.ref p1), (.inr "NUMPART", .ref p2)])) u = some (.dK [((.inr "NAME" : Key), V.ref p1), (.inr "NUMPART", .ref p2)]) := upd_same
        have ne1 : p1 ≠ u := fun e => by rw [e, u7] at ep1; cases ep1
        have ne2 : p2 ≠ u := fun e => by rw [e, u7] at ep2; cases ep2
        have ep1' : (upd H7 u (.dK [((.inr "NAME" : Key), V.ref p1), (.inr "NUMPART", .ref p2)])) p1 = some (.lst [.str (S v)]) := by rw [upd_ne ne1]; exact ep1
        have ep2' : (upd H7 u (.dK [((.inr "NAME" : Key), V.ref p1), (.inr "NUMPART", .ref p2)])) p2 = some (.lst [.str "0", .str "1", .str "7", .str "305", .str "n", .str "w"]) := by rw [upd_ne ne2]; exact ep2
        have ks8 : Ks s q H5 (upd H7 u (.dK [((.inr "NAME" : Key), V.ref p1), (.inr "NUMPART", .ref p2)])) := ks7.set hu _
        have hS8 : SrcAt (upd H7 u (.dK [((.inr "NAME" : Key), V.ref p1), (.inr "NUMPART", .ref p2)])) s q := hS7.set nu.1 nu.2 _
        generalize upd H7 u (.dK [((.inr "NAME" : Key), V.ref p1), (.inr "NUMPART", .ref p2)]) = H8 at e8 ep1' ep2' ks8 hS8 ⊢
        have hf8 := ks8 _ _ fasq.1 fasq.2 hf5
        have dgx := DGet.k (k := .inr x) e8
        refine ⟨_, rfl, lst_ty hf8, _, rfl, _, rfl, u, rfl, .inl ⟨_, .inl e8⟩, _, rfl, _, rfl, fit3 (by show 1 ≤ 10; decide), fun p3 hp3 => ?_⟩
        have sp3 := same_up hp3 (.lst [.str x])
        have n3 := hS8.new hp3
        have dg3 := DGet.k (k := .inr x) (sp3 _ _ e8)
        refine ⟨_, dg3, ?_⟩
        by_cases cN : x = ("NAME" : Str)
        · subst cN
          rw [valV_pos rfl]
          refine ⟨s, q, p1, _, rfl, hS8.same sp3, sp3 _ _ ep1', n1.1, n1.2, (fun z => nomatch z), (by show 1 ≤ 16777216; decide), fun y H9 hy ks9 hS9 => ?_⟩
          rw [List.mem_singleton] at hy
          subst hy
          exact fin H9 v _ _ _ nv.1 nv.2.1 (by have h4 : fF "NAME" = 4 := by decide +kernel
                                               rw [h4]; exact nv.2.2.1) (by rw [nv.2.2.2]; exact Nat.zero_le _) (by rw [nv.2.2.2]; exact Nat.zero_le _) (ks8.trans ((Ks.same sp3).trans ks9)) hS9
        have v1 : valV [((.inr "NAME" : Key), V.ref p1), (.inr "NUMPART", .ref p2)] (.inr x) = valV [((.inr "NUMPART" : Key), V.ref p2)] (.inr x) := valV_neg (key_ne (Ne.symm cN))
        rw [v1]
        by_cases cP : x = ("NUMPART" : Str)
        · subst cP
          rw [valV_pos rfl]
          refine ⟨s, q, p2, _, rfl, hS8.same sp3, sp3 _ _ ep2', n2.1, n2.2, (fun z => nomatch z), (by show 6 ≤ 16777216; decide), fun y H9 hy ks9 hS9 => ?_⟩
          have c6 : ((["0", "1", "7", "305", "n", "w"] : List Str).all fun z => decide (1 ≤ z.cps.toList.length) && decide (z.cps.toList.length ≤ 20) && decide (fgs z.cps.toList ≤ fF "NUMPART") && decide (nsg z.cps.toList ≤ nF "NUMPART") && decide (nsg z.cps.toList ≤ 1)) = true := by decide +kernel
          obtain ⟨z, hz, rfl⟩ := List.mem_map.mp (show y ∈ (["0", "1", "7", "305", "n", "w"] : List Str).map V.str from hy)
          have q6 := List.all_eq_true.mp c6 z hz
          simp only [Bool.and_eq_true, decide_eq_true_eq] at q6
          obtain ⟨⟨⟨⟨g1, g2⟩, g3⟩, g4⟩, g5⟩ := q6
          rw [← S_of z]
          exact fin H9 z.cps.toList _ _ _ g1 g2 g3 g4 g5 (ks8.trans ((Ks.same sp3).trans ks9)) hS9
        have v2 : valV [((.inr "NUMPART" : Key), V.ref p2)] (.inr x) = none := valV_neg (key_ne (Ne.symm cP))
        rw [v2]
        refine ⟨s, q, p3, _, rfl, hS8.same sp3, upd_same, n3.1, n3.2, (fun z => nomatch z), (by show 1 ≤ 16777216; decide), fun y H9 hy ks9 hS9 => ?_⟩
        rw [List.mem_singleton] at hy
        subst hy
        have q6 := List.all_eq_true.mp syms_ok x hsx
        rw [hrow] at q6
        have sp : special x = false := by
          unfold special
          rw [beq_eq_false_iff_ne.mpr cA, beq_eq_false_iff_ne.mpr cN, beq_eq_false_iff_ne.mpr cP, beq_eq_false_iff_ne.mpr cE]
          rfl
        rw [sp] at q6
        simp only [Option.isSome_none, Bool.false_or, Bool.and_eq_true, decide_eq_true_eq] at q6
        obtain ⟨⟨⟨⟨g1, g2⟩, g3⟩, g4⟩, g5⟩ := q6
        have ff := fun (o7 o8 o9 : Option V) => fin H9 x.cps.toList o7 o8 o9 g1 g2 (by rw [g3]; exact Nat.zero_le _) g4 g5 (ks8.trans ((Ks.same sp3).trans ks9)) hS9
        rw [S_of] at ff
        exact ff _ _ _
end
end K04
end

section
set_option Elab.async false
set_option maxRecDepth 100000
set_option maxHeartbeats 4000000
set_option pp.maxSteps 2000
/-! K25: words are spoilt. -/
namespace K04
open PySem L2 PyProof.Rows
def oddA : List Str := ["a", "0", "12", "(", ")", "{", "}", "[", "]", ",", ";", ".", ":", "=", "?", "!", "@", "#", "+", "-", "*"]
def oddB : List Str := ["/", "<", "~", "&", "|", "^", "<<", ">>", "==", "<-", ">", "$", "A", "'", "_a", "\t", "\\", "\""]
def oddC : List Str := ["abcdefghijklmnopq", "aB", "x_", "00", "7a", "use", "each", "Z", "=>", "bits(1, 1)"]
def ODD : List Str := (oddA ++ oddB) ++ KWS ++ oddC
theorem odd_ok : (ODD.all fun z => decide (1 ≤ z.cps.toList.length) && decide (z.cps.toList.length ≤ 20) && decide (nsg z.cps.toList ≤ 1)) = true := by decide +kernel
theorem cutV_take (xs : List V) (j : Nat) : cutV xs none (some (j : Int)) = xs.take j := by
  unfold cutV
  rw [HT.sIx_nat]
  show (xs.drop 0).take (min j xs.length - 0) = xs.take j
  rw [List.drop_zero, Nat.sub_zero]
  rcases Nat.le_total j xs.length with h | h
  · rw [Nat.min_eq_left h]
  · rw [Nat.min_eq_right h, List.take_of_length_le (Nat.le_refl _), List.take_of_length_le h]
theorem cutV_drop (xs : List V) (j : Nat) : cutV xs (some (j : Int)) none = xs.drop j := by
  unfold cutV
  rw [HT.sIx_nat]
  show (xs.drop (min j xs.length)).take (xs.length - min j xs.length) = xs.drop j
  rw [List.take_of_length_le (by rw [List.length_drop]; exact Nat.le_refl _)]
  rcases Nat.le_total j xs.length with h | h
  · rw [Nat.min_eq_left h]
  · rw [Nat.min_eq_right h, List.drop_eq_nil_of_le (Nat.le_refl _), List.drop_eq_nil_of_le h]
/-- the words in place of one word w, with an odd word o -/
inductive Own (w o : List Nat) : List (List Nat) → Prop
  | no : Own w o []
  | two : Own w o [w, w]
  | one : Own w o [o]
  | ow : Own w o [o, w]
  | wo : Own w o [w, o]
theorem fgs_le (v : List Nat) : fgs v ≤ v.length := List.countP_le_length
structure Wds (ws : List (List Nat)) (n f g : Nat) : Prop where
  ok : WOk ws
  len : ws.length ≤ n
  fg : (ws.map fgs).sum ≤ f
  ns : (ws.map nsg).sum ≤ g
theorem Wds.own {ws own : List (List Nat)} {w o : List Nat} {n f g j : Nat} (h : Wds ws n f g) (hj : ws[j]? = some w) (ho : 1 ≤ o.length ∧ o.length ≤ 20 ∧ nsg o ≤ 1) (hw : Own w o own) : Wds (ws.take j ++ own ++ ws.drop (j + 1)) (n + 1) (f + 20) (g + 1) := by
  have e : ws = ws.take j ++ w :: ws.drop (j + 1) := by
    have hlt := (List.getElem?_eq_some_iff.mp hj).1
    have e1 : ws.drop j = w :: ws.drop (j + 1) := by
      rw [List.drop_eq_getElem_cons hlt, (List.getElem?_eq_some_iff.mp hj).2]
    rw [← e1, List.take_append_drop]
  have okw : 1 ≤ w.length ∧ w.length ≤ 20 ∧ nsg w ≤ 1 := h.ok w (List.mem_of_getElem? hj)
  have l1 := h.len
  have l2 := h.fg
  have l3 := h.ns
  have m : ∀ v ∈ own, v = w ∨ v = o := fun v hv => by
    cases hw with
    | no => cases hv
    | two => exact .inl ((List.mem_cons.mp hv).elim id List.mem_singleton.mp)
    | one => exact .inr (List.mem_singleton.mp hv)
    | ow => exact (List.mem_cons.mp hv).elim .inr fun h => .inl (List.mem_singleton.mp h)
    | wo => exact (List.mem_cons.mp hv).elim .inl fun h => .inr (List.mem_singleton.mp h)
  have s1 : own.length ≤ 2 ∧ (own.map fgs).sum ≤ fgs w + 20 ∧ (own.map nsg).sum ≤ nsg w + 1 := by
    have a1 := fgs_le w
    have a2 := fgs_le o
    cases hw <;> simp only [List.length_nil, List.length_cons, List.map_nil, List.map_cons, List.sum_nil, List.sum_cons] <;> omega
  have d1 : ws.length = (ws.take j).length + 1 + (ws.drop (j + 1)).length := by
    have := congrArg List.length e
    simpa [Nat.add_assoc, Nat.add_comm] using this
  have d2 : (ws.map fgs).sum = ((ws.take j).map fgs).sum + fgs w + ((ws.drop (j + 1)).map fgs).sum := by
    have := congrArg (fun l => (List.map fgs l).sum) e
    simpa [Nat.add_assoc] using this
  have d3 : (ws.map nsg).sum = ((ws.take j).map nsg).sum + nsg w + ((ws.drop (j + 1)).map nsg).sum := by
    have := congrArg (fun l => (List.map nsg l).sum) e
    simpa [Nat.add_assoc] using this
  refine ⟨fun v hv => ?_, ?_, ?_, ?_⟩
  · rcases List.mem_append.mp hv with hv | hv
    · rcases List.mem_append.mp hv with hv | hv
      · exact h.ok v (List.mem_of_mem_take hv)
      · rcases m v hv with q | q
        · rw [q]; exact okw
        · rw [q]; exact ho
    · exact h.ok v (List.mem_of_mem_drop hv)
  · rw [List.length_append, List.length_append]
    omega
  · rw [List.map_append, List.map_append, List.sum_append, List.sum_append]
    omega
  · rw [List.map_append, List.map_append, List.sum_append, List.sum_append]
    omega
section
variable {P : Program} {w : World} {K : PySem.W.Frag} {mg : Str → Option Value} {base : Heap}
theorem sc_lw_spoilt_signs : FnScope ["_law_source_here", "_law_signs", "_law_odd", "_law_at", "_law_other", "_law_own"] ["_law_source_here", "_law_signs"] (defScope (topS 65)) := ⟨rfl, rfl, rfl, by decide +kernel, rfl, by decide +kernel, by decide +kernel⟩
def spSpoilt : Sp := fun vs H Q _ => ∃ (s q p : Addr) (ws : List (List Nat)) (n f g : Nat), vs = [.ref s, .ref p] ∧ SrcAt H s q ∧ H p = some (.lst (wdV ws)) ∧ p ≠ s ∧ p ≠ q ∧ ws ≠ [] ∧ Wds ws n f g ∧ n ≤ 10000 ∧
  ∀ p' ws' H', H' p' = some (.lst (wdV ws')) → H p' = none → Wds ws' (n + 1) (f + 20) (g + 1) → Ks s q H H' → SrcAt H' s q → Q (.ref p') H'
theorem ok_lw_spoilt_signs (Z : LwTx K mg) : FnOk P w K mg base CX0 3 Z.lw_spoilt_signs.f Z.lw_spoilt_signs.fd ["_law_source_here", "_law_signs"] spSpoilt := by
  have G_lw_of := ok_lw_of (w := w) (P := P) (base := base) Z
  have G_lw_pick := ok_lw_pick (w := w) (P := P) (base := base) Z
  have G_lw_keywords := ok_lw_keywords (w := w) (P := P) (base := base) Z
  refine Z.lw_spoilt_signs.F.ok sc_lw_spoilt_signs (fun vs H Q E h => ?_) (fun cdv A outer s H vs Q E hr h => ?_)
  · obtain ⟨s, q, p, _, _, _, _, rfl, _⟩ := h
    rfl
  obtain ⟨s, q, p, ws, n, f, g, rfl, hS, hp, ps, pq, hne, wds, hn, k⟩ := h
  have nd := sc_lw_spoilt_signs.nd
  have wl := wds.len
  have wpos := List.length_pos_iff.mpr hne
  refine ⟨_, (pss_cons (ps_set (i := 2) nd rfl (.inl rfl) (pe_lst (pa_cons pe_str (pa_cons pe_str (pa_cons pe_str (pa_cons pe_str (pa_cons pe_str (pa_cons pe_str (pa_cons pe_str (pa_cons pe_str (pa_cons pe_str (pa_cons pe_str (pa_cons pe_str (pa_cons pe_str (pa_cons pe_str (pa_cons pe_str (pa_cons pe_str (pa_cons pe_str (pa_cons pe_str (pa_cons pe_str (pa_cons pe_str (pa_cons pe_str (pa_cons pe_str pa_nil)))))))))))))))))))))))
    (pss_cons (ps_set (i := 2) nd rfl (.inl rfl) (pe_op op_cat (pv 2) (pe_lst (pa_cons pe_str (pa_cons pe_str (pa_cons pe_str (pa_cons pe_str (pa_cons pe_str (pa_cons pe_str (pa_cons pe_str (pa_cons pe_str (pa_cons pe_str (pa_cons pe_str (pa_cons pe_str (pa_cons pe_str (pa_cons pe_str (pa_cons pe_str (pa_cons pe_str (pa_cons pe_str (pa_cons pe_str (pa_cons pe_str pa_nil)))))))))))))))))))))
    (pss_cons (ps_set (i := 2) nd rfl (.inl rfl) (pe_op op_cat (pe_op op_cat (pv 2) (pe_call0 G_lw_keywords (hr.mono (by omega)) rfl Z.lw_keywords.g Z.lw_keywords.F.kp Z.lw_keywords.b .nil pass0)) (pe_lst (pa_cons pe_str (pa_cons pe_str (pa_cons pe_str (pa_cons pe_str (pa_cons pe_str (pa_cons pe_str (pa_cons pe_str (pa_cons pe_str (pa_cons pe_str (pa_cons pe_str pa_nil)))))))))))))
    (pss_cons (ps_par (i := 3) (j := 4) rfl nd rfl rfl (by decide) rfl rfl (pa_cons (pe_call G_lw_pick (hr.mono (by omega)) rfl Z.lw_pick.g Z.lw_pick.F.kp Z.lw_pick.b .nil pass0 (pa_cons (pv 0) (pa_cons (pe_callB call_len_seq (by rfl) Z.m_len PySem.boot_len (pa_cons (pv 1) pa_nil)) pa_nil))) (pa_cons (pe_call G_lw_of (hr.mono (by omega)) rfl Z.lw_of.g Z.lw_of.F.kp Z.lw_of.b .nil pass0 (pa_cons (pv 0) (pa_cons (pv 2) pa_nil))) pa_nil)) (by rfl))
    (pss_cons (ps_set (i := 5) nd rfl (.inl rfl) (pe_call G_lw_of (hr.mono (by omega)) rfl Z.lw_of.g Z.lw_of.F.kp Z.lw_of.b .nil pass0 (pa_cons (pv 0) (pa_cons (pe_lst (pa_cons (pe_lst pa_nil) (pa_cons (pe_op op_rep (pe_lst (pa_cons (pe_ix ix_list (pv 1) (pv 3) (fun _ _ => rfl)) pa_nil)) pe_int) (pa_cons (pe_lst (pa_cons (pv 4) pa_nil)) (pa_cons (pe_lst (pa_cons (pv 4) (pa_cons (pe_ix ix_list (pv 1) (pv 3) (fun _ _ => rfl)) pa_nil))) (pa_cons (pe_lst (pa_cons (pe_ix ix_list (pv 1) (pv 3) (fun _ _ => rfl)) (pa_cons (pv 4) pa_nil))) pa_nil)))))) pa_nil))))
    (pss_one (ps_ret (pe_op op_cat (pe_op op_cat (pe_slice sl_list (pv 1) po_none (po_some (pv 3))) (pv 5)) (pe_slice sl_list (pv 1) (po_some (pe_op op_add (pv 3) pe_int)) po_none))))))))), ?_⟩
  -- the odd words
  refine ⟨fit3' (show 21 ≤ 1000 by decide), fun o1 ho1 => ?_⟩
  refine ⟨_, rfl, fit3' (show 18 ≤ 1000 by decide), fun o2 ho2 => ⟨o1, o2, oddA.map V.str, oddB.map V.str, rfl, rfl, same_up ho2 _ _ _ upd_same, upd_same, fit3' (show 39 ≤ 1000 by decide), fun o3 ho3 => ?_⟩⟩
  refine ⟨_, rfl, rfl, fun o4 ho4 => ⟨o3, o4, oddA.map V.str ++ oddB.map V.str, KWS.map V.str, rfl, rfl, same_up ho4 _ _ _ upd_same, upd_same, fit3' (show 53 ≤ 1000 by decide), fun o5 ho5 => ⟨fit3' (show 10 ≤ 1000 by decide), fun o6 ho6 => ⟨o5, o6, (oddA.map V.str ++ oddB.map V.str) ++ KWS.map V.str, oddC.map V.str, rfl, rfl, same_up ho6 _ _ _ upd_same, upd_same, fit3' (show 63 ≤ 1000 by decide), fun o7 ho7 => ?_⟩⟩⟩⟩
  have eo : (oddA.map V.str ++ oddB.map V.str) ++ KWS.map V.str ++ oddC.map V.str = ODD.map V.str := by
    unfold ODD
    rw [List.map_append, List.map_append, List.map_append]
  rw [eo]
  have s6 := (same_up ho1 (.lst (oddA.map V.str))).trans ((same_up ho2 (.lst (oddB.map V.str))).trans ((same_up ho3 (.lst (oddA.map V.str ++ oddB.map V.str))).trans ((same_up ho4 (.lst (KWS.map V.str))).trans ((same_up ho5 (.lst ((oddA.map V.str ++ oddB.map V.str) ++ KWS.map V.str))).trans (same_up ho6 (.lst (oddC.map V.str)))))))
  have s7 := s6.trans (same_up ho7 (.lst (ODD.map V.str)))
  have n7 := hS.new (sm_none s6 ho7)
  have hodd : (upd (upd (upd (upd (upd (upd (upd H o1 (.lst (oddA.map V.str))) o2 (.lst (oddB.map V.str))) o3 (.lst (oddA.map V.str ++ oddB.map V.str))) o4 (.lst (KWS.map V.str))) o5 (.lst ((oddA.map V.str ++ oddB.map V.str) ++ KWS.map V.str))) o6 (.lst (oddC.map V.str))) o7 (.lst (ODD.map V.str))) o7 = some (.lst (ODD.map V.str)) := upd_same
  have hp7 := s7 _ _ hp
  have hS7 := hS.same s7
  refine ⟨_, rfl, _, rfl, p, _, rfl, .inl (SqL.of hp7), s, q, _, rfl, hS7, Int.natCast_nonneg _, by rw [wdV_len]; omega, fun i H8 h0 h1 ks8 hS8 => ?_⟩
  have hi : i < (ws.length : Int) := by
    rw [wdV_len] at h1
    split at h1 <;> omega
  obtain ⟨j, rfl⟩ := Int.eq_ofNat_of_zero_le h0
  have hj : j < ws.length := by omega
  have hw : ws[j]? = some ws[j] := List.getElem?_eq_getElem hj
  generalize ws[j] = w0 at hw
  have hwv : (wdV ws)[j]? = some (.str (S w0)) := by
    unfold wdV
    rw [List.getElem?_map, hw]
    rfl
  refine ⟨_, rfl, _, rfl, s, q, o7, ODD.map V.str, rfl, hS8, ks8 _ _ n7.1 n7.2 hodd, n7.1, n7.2, (by decide), (by rw [List.length_map]; decide), fun y H9 hy ks9 hS9 => ⟨_, _, rfl, ?_⟩⟩
  obtain ⟨z, hz, rfl⟩ := List.mem_map.mp hy
  have oz := List.all_eq_true.mp odd_ok z hz
  simp only [Bool.and_eq_true, decide_eq_true_eq] at oz
  obtain ⟨⟨z1, z2⟩, z3⟩ := oz
  have ez : V.str z = .str (S z.cps.toList) := by rw [S_of]
  rw [ez]
  generalize z.cps.toList = o at z1 z2 z3
  have ks9 : Ks s q H H9 := (Ks.same s7).trans (ks8.trans ks9)
  have hp9 := ks9 _ _ ps pq hp
  have at9 : atI (wdV ws) (j : Int) = some (.str (S w0)) := atI_nat hwv
  -- the list of what may stand in its place
  refine ⟨_, rfl, fit3 (Nat.zero_le _), fun a1 ha1 => ?_⟩
  have t1 := same_up ha1 (.lst [])
  refine ⟨_, rfl, _, rfl, p, _, (j : Nat), _, rfl, rfl, SqL.of (t1 _ _ hp9), at9, fit3 (by show 1 ≤ 10; decide), fun b2 hb2 => ⟨b2, 2, _, rfl, rfl, upd_same, by decide, by decide, fit3 (by show 1 * 2 ≤ 10; decide), fun a2 ha2 => ?_⟩⟩
  have t2 := t1.trans ((same_up hb2 (.lst [.str (S w0)])).trans (same_up ha2 (.lst (List.replicate (2 : Int).toNat [V.str (S w0)]).flatten)))
  refine ⟨_, rfl, fit3 (by show 1 ≤ 10; decide), fun a3 ha3 => ?_⟩
  have t3 := t2.trans (same_up ha3 (.lst [.str (S o)]))
  refine ⟨_, rfl, _, rfl, _, rfl, p, _, (j : Nat), _, rfl, rfl, SqL.of (t3 _ _ hp9), at9, fit3 (by show 2 ≤ 10; decide), fun a4 ha4 => ?_⟩
  have t4 := t3.trans (same_up ha4 (.lst [.str (S o), .str (S w0)]))
  refine ⟨_, rfl, _, rfl, p, _, (j : Nat), _, rfl, rfl, SqL.of (t4 _ _ hp9), at9, _, rfl, fit3 (by show 2 ≤ 10; decide), fun a5 ha5 => ⟨fit3 (by show 5 ≤ 10; decide), fun pl hpl => ?_⟩⟩
  have t5 := t4.trans (same_up ha5 (.lst [.str (S w0), .str (S o)]))
  have m1 := hS9.new ha1
  have m2 := hS9.new (sm_none (t1.trans (same_up hb2 (.lst [.str (S w0)]))) ha2)
  have m3 := hS9.new (sm_none t2 ha3)
  have m4 := hS9.new (sm_none t3 ha4)
  have m5 := hS9.new (sm_none t4 ha5)
  have ml := hS9.new (sm_none t5 hpl)
  have t6 := t5.trans (same_up hpl (.lst [.ref a1, .ref a2, .ref a3, .ref a4, .ref a5]))
  have k5 := same_up hpl (.lst [.ref a1, .ref a2, .ref a3, .ref a4, .ref a5])
  have k4 := (same_up ha5 (.lst [.str (S w0), .str (S o)])).trans k5
  have k3 := (same_up ha4 (.lst [.str (S o), .str (S w0)])).trans k4
  have k2 := (same_up ha3 (.lst [.str (S o)])).trans k3
  have k1 := ((same_up hb2 (.lst [.str (S w0)])).trans (same_up ha2 (.lst (List.replicate (2 : Int).toNat [V.str (S w0)]).flatten))).trans k2
  have q1 := k1 _ _ (upd_same (H := H9) (a := a1) (o := .lst []))
  have q2 := k2 _ _ upd_same
  have q3 := k3 _ _ upd_same
  have q4 := k4 _ _ upd_same
  have q5 := k5 _ _ upd_same
  refine ⟨s, q, pl, _, rfl, hS9.same t6, upd_same, ml.1, ml.2, (fun z => nomatch z), (by show 5 ≤ 16777216; decide), fun y H12 hy ks12 hS12 => ?_⟩
  have key : ∃ po own, y = .ref po ∧ H12 po = some (.lst (wdV own)) ∧ Own w0 o own := by
    simp only [List.mem_cons, List.not_mem_nil, or_false] at hy
    rcases hy with rfl | rfl | rfl | rfl | rfl
    · exact ⟨a1, [], rfl, ks12 _ _ m1.1 m1.2 q1, .no⟩
    · exact ⟨a2, [w0, w0], rfl, ks12 _ _ m2.1 m2.2 q2, .two⟩
    · exact ⟨a3, [o], rfl, ks12 _ _ m3.1 m3.2 q3, .one⟩
    · exact ⟨a4, [o, w0], rfl, ks12 _ _ m4.1 m4.2 q4, .ow⟩
    · exact ⟨a5, [w0, o], rfl, ks12 _ _ m5.1 m5.2 q5, .wo⟩
  obtain ⟨po, own, rfl, hpo, hown⟩ := key
  have ks13 : Ks s q H H12 := ks9.trans ((Ks.same t6).trans ks12)
  have hp12 := ks13 _ _ ps pq hp
  have W := wds.own hw ⟨z1, z2, z3⟩ hown
  have wl2 := W.len
  rw [List.length_append, List.length_append] at wl2
  refine ⟨_, rfl, _, rfl, _, rfl, p, _, rfl, SqL.of hp12, fun c1 hc1 => ?_⟩
  rw [cutV_take]
  have r1 := same_up hc1 (.lst ((wdV ws).take j))
  have e1 : (wdV ws).take j = wdV (ws.take j) := by unfold wdV; rw [List.map_take]
  have e2 : (wdV ws).drop (j + 1) = wdV (ws.drop (j + 1)) := by unfold wdV; rw [List.map_drop]
  refine ⟨_, rfl, c1, po, _, _, rfl, rfl, upd_same, r1 _ _ hpo, by rw [e1, wdV_len, wdV_len]; exact Nat.le_trans (show _ ≤ 10001 by omega) (by decide), fun c2 hc2 => ?_⟩
  have r2 := r1.trans (same_up hc2 (.lst ((wdV ws).take j ++ wdV own)))
  refine ⟨_, rfl, _, rfl, _, _, rfl, rfl, _, rfl, p, _, rfl, SqL.of (r2 _ _ hp12), fun c3 hc3 => ?_⟩
  rw [show ((j : Nat) : Int) + 1 = ((j + 1 : Nat) : Int) from rfl, cutV_drop]
  have r3 := same_up hc3 (.lst ((wdV ws).drop (j + 1)))
  refine ⟨c2, c3, _, _, rfl, rfl, r3 _ _ upd_same, upd_same, by rw [e1, e2, List.length_append, wdV_len, wdV_len, wdV_len]; exact Nat.le_trans (show _ ≤ 10001 by omega) (by decide), fun c4 hc4 => ?_⟩
  rw [e1, e2, ← wdV_app, ← wdV_app]
  have r4 := r2.trans (r3.trans (same_up hc4 (.lst (wdV (ws.take j ++ own ++ ws.drop (j + 1))))))
  have f4 : H c4 = none := ks13.none hS (sm_none r2 (sm_none r3 hc4)) hS12
  rw [e1, e2, ← wdV_app] at r4
  exact k c4 _ _ upd_same f4 W (ks13.trans (Ks.same r4)) (hS12.same r4)
end
end K04
end

section
set_option Elab.async false
set_option maxRecDepth 100000
set_option maxHeartbeats 4000000
set_option pp.maxSteps 2000
/-! K26: words become a text. -/
namespace K04
open PySem L2 PyProof.Rows
/-! ### runs of figures -/
/-- the longest run of figures, with s figures ahead -/
def mxr : Nat → List Nat → Nat
  | s, [] => s
  | s, c :: r => if inS FIG c = true then mxr (s + 1) r else max s (mxr 0 r)
/-- the run at the end -/
def lsr : Nat → List Nat → Nat
  | s, [] => s
  | s, c :: r => if inS FIG c = true then lsr (s + 1) r else lsr 0 r
theorem mxr_cons (s c : Nat) (r : List Nat) : mxr s (c :: r) = if inS FIG c = true then mxr (s + 1) r else max s (mxr 0 r) := rfl
theorem lsr_cons (s c : Nat) (r : List Nat) : lsr s (c :: r) = if inS FIG c = true then lsr (s + 1) r else lsr 0 r := rfl
theorem mxr_app : ∀ (a b : List Nat) (s : Nat), mxr s (a ++ b) ≤ max (mxr s a) (mxr (lsr s a) b)
  | [], b, s => Nat.le_max_right _ _
  | c :: a, b, s => by
    show mxr s (c :: (a ++ b)) ≤ _
    rw [mxr_cons s c (a ++ b), mxr_cons s c a, lsr_cons s c a]
    by_cases h : inS FIG c = true
    · rw [if_pos h, if_pos h, if_pos h]
      exact mxr_app a b (s + 1)
    · rw [if_neg h, if_neg h, if_neg h]
      have := mxr_app a b 0
      omega
theorem lsr_app : ∀ (a b : List Nat) (s : Nat), lsr s (a ++ b) = lsr (lsr s a) b
  | [], _, _ => rfl
  | c :: a, b, s => by
    show lsr s (c :: (a ++ b)) = _
    rw [lsr_cons s c (a ++ b), lsr_cons s c a]
    by_cases h : inS FIG c = true
    · rw [if_pos h, if_pos h]
      exact lsr_app a b (s + 1)
    · rw [if_neg h, if_neg h]
      exact lsr_app a b 0
theorem fgs_cons (c : Nat) (r : List Nat) : fgs (c :: r) = fgs r + if inS FIG c = true then 1 else 0 := by
  unfold fgs
  rw [List.countP_cons]
theorem mxr_fgs : ∀ (v : List Nat) (s : Nat), mxr s v ≤ s + fgs v
  | [], s => Nat.le_refl _
  | c :: r, s => by
    rw [fgs_cons]
    unfold mxr
    split
    · have := mxr_fgs r (s + 1)
      omega
    · have := mxr_fgs r 0
      omega
theorem lsr_fgs : ∀ (v : List Nat) (s : Nat), lsr s v ≤ s + fgs v
  | [], s => Nat.le_refl _
  | c :: r, s => by
    rw [fgs_cons]
    unfold lsr
    split
    · have := lsr_fgs r (s + 1)
      omega
    · have := lsr_fgs r 0
      omega
theorem mxr_mono : ∀ (v : List Nat) {s s' : Nat}, s ≤ s' → mxr s v ≤ mxr s' v
  | [], _, _, h => h
  | c :: r, s, s', h => by
    unfold mxr
    split
    · exact mxr_mono r (Nat.succ_le_succ h)
    · omega
theorem mxr_ge : ∀ (v : List Nat) (s : Nat), s ≤ mxr s v
  | [], s => Nat.le_refl _
  | c :: r, s => by
    unfold mxr
    split
    · exact Nat.le_trans (Nat.le_succ s) (mxr_ge r (s + 1))
    · exact Nat.le_max_left _ _
theorem mxr_all : ∀ (u b : List Nat) (s : Nat), u.all (inS FIG) = true → s + u.length ≤ mxr s (u ++ b)
  | [], b, s, _ => mxr_ge b s
  | c :: u, b, s, h => by
    rw [List.all_cons, Bool.and_eq_true] at h
    show _ ≤ mxr s (c :: (u ++ b))
    unfold mxr
    rw [if_pos h.1]
    have := mxr_all u b (s + 1) h.2
    rw [List.length_cons]
    omega
theorem mxr_tail : ∀ (a u : List Nat) (s : Nat), mxr 0 u ≤ mxr s (a ++ u)
  | [], u, s => mxr_mono u (Nat.zero_le s)
  | c :: a, u, s => by
    show _ ≤ mxr s (c :: (a ++ u))
    rw [mxr_cons s c (a ++ u)]
    split
    · exact mxr_tail a u (s + 1)
    · exact Nat.le_trans (mxr_tail a u 0) (Nat.le_max_right _ _)
theorem mxr_pre : ∀ (a u : List Nat) (s : Nat), mxr s a ≤ mxr s (a ++ u)
  | [], u, s => mxr_ge u s
  | c :: a, u, s => by
    show _ ≤ mxr s (c :: (a ++ u))
    unfold mxr
    split
    · exact mxr_pre a u (s + 1)
    · have := mxr_pre a u 0
      omega
/-! ### gaps -/
def gapP : List Str := ["", " ", "\n\n", "// a ~ b\n", "\n", " \n  ", " // x = 1;\n", " //\n", " //\tA$\n ", "// x\n", "//\n", " // end"]
def gapOk (z : Str) : Bool := decide (z.cps.toList.length ≤ 12) && decide (nsg z.cps.toList = 0) && (match z.cps.toList with | [] => true | c :: r => !inS FIG c && decide (mxr 0 r ≤ 1) && decide (lsr 0 r = 0))
theorem gap_ok : (gapP.all gapOk) = true := by decide +kernel
theorem gap_runs {z : Str} (h : gapOk z = true) (s : Nat) : mxr s z.cps.toList ≤ max s 1 ∧ lsr s z.cps.toList ≤ s := by
  unfold gapOk at h
  rw [Bool.and_eq_true] at h
  have h2 := h.2
  cases e : z.cps.toList with
  | nil => exact ⟨Nat.le_max_left _ _, Nat.le_refl _⟩
  | cons c r =>
    rw [e] at h2
    simp only [Bool.and_eq_true, Bool.not_eq_true', decide_eq_true_eq] at h2
    obtain ⟨⟨h3, h4⟩, h5⟩ := h2
    unfold mxr lsr
    rw [if_neg (by rw [h3]; decide), if_neg (by rw [h3]; decide), h5]
    exact ⟨by omega, Nat.zero_le _⟩
theorem gap_len {z : Str} (h : gapOk z = true) : z.cps.toList.length ≤ 12 ∧ nsg z.cps.toList = 0 := by
  unfold gapOk at h
  rw [Bool.and_eq_true, Bool.and_eq_true, decide_eq_true_eq, decide_eq_true_eq] at h
  exact h.1
theorem nsg_app (a b : List Nat) : nsg (a ++ b) = nsg a + nsg b := List.countP_append
/-- a text that holds so many words -/
structure TxW (t : List Nat) (n f g : Nat) : Prop where
  len : t.length ≤ 12 + 32 * n
  mx : mxr 0 t ≤ 1 + f
  ls : lsr 0 t ≤ f
  ns : nsg t ≤ g
theorem TxW.gap {t : List Nat} {n f g : Nat} {z : Str} (h : TxW t n f g) (hz : gapOk z = true) : (t ++ z.cps.toList).length ≤ 24 + 32 * n ∧ mxr 0 (t ++ z.cps.toList) ≤ 1 + f ∧ lsr 0 (t ++ z.cps.toList) ≤ f ∧ nsg (t ++ z.cps.toList) ≤ g := by
  obtain ⟨l1, l2⟩ := gap_len hz
  obtain ⟨r1, r2⟩ := gap_runs hz (lsr 0 t)
  have a1 := mxr_app t z.cps.toList 0
  have h1 := h.len
  have h2 := h.mx
  have h3 := h.ls
  have h4 := h.ns
  refine ⟨by rw [List.length_append]; omega, by omega, by rw [lsr_app]; omega, by rw [nsg_app]; omega⟩
theorem TxW.word {t : List Nat} {n f g : Nat} {z : Str} {v : List Nat} (h : TxW t n f g) (hz : gapOk z = true) (hv : v.length ≤ 20) : TxW ((t ++ z.cps.toList) ++ v) (n + 1) (f + fgs v) (g + nsg v) := by
  obtain ⟨g1, g2, g3, g4⟩ := h.gap hz
  have a1 := mxr_app (t ++ z.cps.toList) v 0
  have a2 := mxr_fgs v (lsr 0 (t ++ z.cps.toList))
  have a3 := lsr_fgs v (lsr 0 (t ++ z.cps.toList))
  refine ⟨by rw [List.length_append]; omega, by omega, by rw [lsr_app]; omega, by rw [nsg_app]; omega⟩
section
variable {P : Program} {w : World} {K : PySem.W.Frag} {mg : Str → Option Value} {base : Heap}
theorem sc_lw_spaced : FnScope ["_law_source_here", "_law_signs", "_law_text", "_law_last", "_law_one", "_law_gaps", "_law_is_near", "_law_is_word"] ["_law_source_here", "_law_signs"] (defScope (topS 60)) := ⟨rfl, rfl, rfl, by decide +kernel, rfl, by decide +kernel, by decide +kernel⟩
/-- a text that is drawn -/
structure TxOk (t : List Nat) (n f g : Nat) : Prop where
  len : t.length ≤ 24 + 32 * n
  mx : mxr 0 t ≤ 1 + f
  ns : nsg t ≤ g
def spSpaced : Sp := fun vs H Q _ => ∃ (s q p : Addr) (ws : List (List Nat)) (n f g : Nat), vs = [.ref s, .ref p] ∧ SrcAt H s q ∧ H p = some (.lst (wdV ws)) ∧ p ≠ s ∧ p ≠ q ∧ Wds ws n f g ∧ n ≤ 10000 ∧
  ∀ t H', TxOk t n f g → Ks s q H H' → SrcAt H' s q → Q (.str (S t)) H'
theorem gap_in {z : Str} (h : z ∈ gapP) : gapOk z = true := List.all_eq_true.mp gap_ok z h
theorem cut_len (z : Str) (lo hi : Option Int) : (cutS z lo hi).length ≤ z.length := by
  unfold cutS Str.length
  show ((z.cps.toList.drop _).take _).toArray.size ≤ z.cps.size
  rw [List.size_toArray, List.length_take, List.length_drop, Array.length_toList]
  omega
/-- more gaps, or none -/
theorem more_gaps {c : TT} {ta : TA} {zs more : List Str} {a : Addr} {σ : L2.St} {H : Hp} {D : Ends} (h5 : σ[5]? = some (some (.ref a))) (ha : H a = some (.lst (zs.map V.str))) (ht : ta = strTA more) (hl : zs.length + more.length ≤ 1000)
    (hc : ∀ Q : Bool → Hp → Prop, (∀ b, Q b H) → c σ H Q)
    (k : ∀ H' p zs', Same H H' → H' p = some (.lst (zs'.map V.str)) → (p = a ∨ H p = none) → (zs' = zs ∨ zs' = zs ++ more) → D.nx (σ.set 5 (some (.ref p))) H') :
    tIfS c (tAsg (tOp rCat (tVar 5) (tLst ta)) (gName 5)) tNext D σ H := by
  refine hc _ fun b => ?_
  cases b with
  | true =>
    subst ht
    refine iteT ⟨_, h5, strTA_of _ ⟨by rw [List.length_map]; exact fit3' (by omega), fun p hp => ?_⟩⟩
    have s1 := same_up hp (.lst (more.map V.str))
    refine ⟨a, p, _, _, rfl, rfl, s1 _ _ ha, upd_same, by rw [List.length_map, List.length_map]; exact fit3' hl, fun p2 hp2 => ?_⟩
    refine k _ p2 (zs ++ more) (s1.trans (same_up hp2 _)) ?_ (.inr (sm_none s1 hp2)) (.inr rfl)
    rw [upd_same, List.map_append]
  | false =>
    have e : σ.set 5 (some (.ref a)) = σ := by
      refine List.ext_getElem? fun i => ?_
      rw [List.getElem?_set]
      split
      · rename_i h
        subst h
        have hlt := (List.getElem?_eq_some_iff.mp h5).1
        rw [if_pos hlt, h5]
      · rfl
    have z := k H a zs (Same.refl _) ha (.inl rfl) (.inl rfl)
    rw [e] at z
    exact iteF z
/-! what is asked of a drawn text's ends: some answer -/
def StrTE (t : TE) (σ : L2.St) (H : Hp) : Prop := ∀ Q : VK, (∀ z, Q (.str z) H) → t σ H Q
def BoolTE (t : TE) (σ : L2.St) (H : Hp) : Prop := ∀ Q : VK, (∀ b, Q (.bl b) H) → t σ H Q
def BoolTT (t : TT) (σ : L2.St) (H : Hp) : Prop := ∀ Q : Bool → Hp → Prop, (∀ b, Q b H) → t σ H Q
section
variable {i : Nat} {z : Str} {σ : L2.St} {H : Hp} {t u : TE} {c d : TT}
theorem str_last (h : σ[i]? = some (some (.str z))) (hz : z.length ≤ 1000) : StrTE (tSl rSlS (tVar i) (tPart (tUn (rU fun i => .int (-i)) (tC (.int 1)))) tNoPart) σ H := fun Q k => ⟨_, h, 1, rfl, _, rfl, _, rfl, fit3' hz, k _⟩
theorem str_first (h : σ[i]? = some (some (.str z))) (hz : z.length ≤ 1000) : StrTE (tSl rSlS (tVar i) tNoPart (tPart (tC (.int 1)))) σ H := fun Q k => ⟨_, h, _, rfl, _, rfl, fit3' hz, k _⟩
theorem bool_in {k : Str} (h : StrTE t σ H) : BoolTE (tOp (fun x y H Q => ∃ i j, x = V.str i ∧ y = V.str j ∧ Q (V.bl (!(Builtin.Str.occurrences j i 0 j.length 1).isEmpty)) H) t (tC (.str k))) σ H := fun Q q => h _ fun z => ⟨_, _, rfl, rfl, q _⟩
theorem bool_eq {k : Str} (h : StrTE t σ H) : BoolTE (tOp rEq t (tC (.str k))) σ H := fun Q q => h _ fun z => ⟨rfl, q _⟩
theorem bool_ne {k : Str} (h : StrTE t σ H) : BoolTE (tOp rNe t (tC (.str k))) σ H := fun Q q => h _ fun z => ⟨rfl, q _⟩
theorem bool_alnum (h : StrTE t σ H) : BoolTE (tM0 (fun x xs H Q => ∃ a, x = V.str a ∧ xs = [] ∧ True ∧ Q (V.bl (Txt.isalnum a)) H) t) σ H := fun Q q => h _ fun z => ⟨⟨_, rfl⟩, _, rfl, rfl, trivial, q _⟩
theorem bool_var {b : Bool} (h : σ[i]? = some (some (.bl b))) : BoolTE (tVar i) σ H := fun Q q => ⟨_, h, q _⟩
theorem ite_any {b : Bool} {A B : Prop} (ha : A) (hb : B) : if b = true then A else B := by
  cases b with
  | true => exact iteT ha
  | false => exact iteF hb
theorem bool_and (h : BoolTE t σ H) (h2 : BoolTE u σ H) : BoolTE (tAndV t u) σ H := fun Q q => h _ fun b => ⟨b, rfl, ite_any (h2 _ q) (q _)⟩
theorem bool_or (h : BoolTE t σ H) (h2 : BoolTE u σ H) : BoolTE (tOrV t u) σ H := fun Q q => h _ fun b => ⟨b, rfl, ite_any (q _) (h2 _ q)⟩
theorem tt_test (h : BoolTE t σ H) : BoolTT (tTest t) σ H := fun Q q => h _ fun b => ⟨b, rfl, q _⟩
theorem tt_val (h : BoolTE t σ H) : BoolTT (tB t) σ H := fun Q q => h _ fun b => ⟨b, rfl, q _⟩
theorem tt_not (h : BoolTT c σ H) : BoolTT (tNot c) σ H := fun Q q => h _ fun b => q _
theorem tt_and (h : BoolTT c σ H) (h2 : BoolTT d σ H) : BoolTT (tAnd c d) σ H := fun Q q => h _ fun b => ite_any (h2 _ q) (q _)
end
theorem gap_list (zs : List Str) (h : (zs.all fun z => gapP.contains z) = true) : ∀ z ∈ zs, gapOk z = true := fun z hz => gap_in (List.contains_iff_mem.mp (List.all_eq_true.mp h z hz))
def gap6 : List Str := [" ", "\n", " \n  ", " // x = 1;\n", " //\n", ((" //" : Str) ++ ("\t" : Str)) ++ ("A$\n " : Str)]
theorem ok_lw_spaced (Z : LwTx K mg) : FnOk P w K mg base CX0 3 Z.lw_spaced.f Z.lw_spaced.fd ["_law_source_here", "_law_signs"] spSpaced := by
  have G_lw_of := ok_lw_of (w := w) (P := P) (base := base) Z
  refine Z.lw_spaced.F.ok sc_lw_spaced (fun vs H Q E h => ?_) (fun cdv A outer s H vs Q E hr h => ?_)
  · obtain ⟨s, q, p, _, _, _, _, rfl, _⟩ := h
    rfl
  obtain ⟨s, q, p, ws, n, f, g, rfl, hS, hp, ps, pq, wds, hn, k⟩ := h
  have nd := sc_lw_spaced.nd
  have wl := wds.len
  refine ⟨_, (pss_cons (ps_par (i := 2) (j := 3) rfl nd rfl rfl (by decide) rfl rfl (pa_cons (pe_call G_lw_of (hr.mono (by omega)) rfl Z.lw_of.g Z.lw_of.F.kp Z.lw_of.b .nil pass0 (pa_cons (pv 0) (pa_cons (pe_lst (pa_cons pe_str (pa_cons pe_str (pa_cons pe_str (pa_cons pe_str pa_nil))))) pa_nil))) (pa_cons pe_str pa_nil)) (by rfl))
    (pss_cons (ps_for PassesOwn.never rfl (pi_list (pv 1)) (pg_name (i := 4) nd rfl (.inl rfl)) (pss_cons (ps_set (i := 5) nd rfl (.inl rfl) (pe_lst (pa_cons pe_str (pa_cons pe_str (pa_cons pe_str (pa_cons pe_str (pa_cons pe_str (pa_cons (pe_op op_add_str (pe_op op_add_str pe_str pe_str) pe_str) pa_nil))))))))
    (pss_cons (ps_if (pt_cmpR op_ne (pe_slice sl_str (pv 3) (po_some (pe_un un_neg pe_int)) po_none) pe_str (nomark _)) (pss_one (ps_set (i := 5) nd rfl (.inl rfl) (pe_op op_cat (pv 5) (pe_lst (pa_cons pe_str (pa_cons pe_str pa_nil)))))) pss_nil)
    (pss_cons (ps_set (i := 6) nd rfl (.inl rfl) (pe_and (pe_cmpR op_in_str (pe_slice sl_str (pv 3) (po_some (pe_un un_neg pe_int)) po_none) pe_str (by rfl)) (pe_one (pe_cmpR op_in_str (pe_slice sl_str (pv 4) po_none (po_some pe_int)) pe_str (by rfl)))))
    (pss_cons (ps_set (i := 7) nd rfl (.inl rfl) (pe_or (pe_m0 PySem.F.slot_str_isalnum PySem.F.type_str_isalnum mt_isalnum (pe_slice sl_str (pv 3) (po_some (pe_un un_neg pe_int)) po_none)) (pe_one (pe_cmpR op_eq (pe_slice sl_str (pv 3) (po_some (pe_un un_neg pe_int)) po_none) pe_str (nomark _)))))
    (pss_cons (ps_set (i := 7) nd rfl (.inl rfl) (pe_and (pv 7) (pe_one (pe_or (pe_m0 PySem.F.slot_str_isalnum PySem.F.type_str_isalnum mt_isalnum (pe_slice sl_str (pv 4) po_none (po_some pe_int))) (pe_one (pe_cmpR op_eq (pe_slice sl_str (pv 4) po_none (po_some pe_int)) pe_str (nomark _)))))))
    (pss_cons (ps_if (PW.pt (pw_and (pt_not (pt_val (pv 6))) (pw_and1 (pt_not (pt_val (pv 7)))))) (pss_one (ps_set (i := 5) nd rfl (.inl rfl) (pe_op op_cat (pv 5) (pe_lst (pa_cons pe_str (pa_cons pe_str (pa_cons pe_str (pa_cons pe_str (pa_cons pe_str (pa_cons pe_str pa_nil)))))))))) pss_nil)
    (pss_one (ps_par (i := 2) (j := 3) rfl nd rfl rfl (by decide) rfl rfl (pa_cons (pe_op op_add_str (pe_op op_add_str (pv 2) (pe_call G_lw_of (hr.mono (by omega)) rfl Z.lw_of.g Z.lw_of.F.kp Z.lw_of.b .nil pass0 (pa_cons (pv 0) (pa_cons (pv 5) pa_nil)))) (pv 4)) (pa_cons (pv 4) pa_nil)) (by rfl))))))))))
    (pss_one (ps_ret (pe_op op_add_str (pv 2) (pe_call G_lw_of (hr.mono (by omega)) rfl Z.lw_of.g Z.lw_of.F.kp Z.lw_of.b .nil pass0 (pa_cons (pv 0) (pa_cons (pe_lst (pa_cons pe_str (pa_cons pe_str (pa_cons pe_str (pa_cons pe_str (pa_cons pe_str pa_nil)))))) pa_nil)))))))), ?_⟩
  refine ⟨_, rfl, fit3 (by show 4 ≤ 10; decide), fun a1 ha1 => ?_⟩
  have n1 := hS.new ha1
  refine ⟨s, q, a1, (["", " ", "\n\n", "// a ~ b\n"] : List Str).map V.str, rfl, hS.up ha1 _, upd_same, n1.1, n1.2, (fun z => nomatch z), (by show 4 ≤ 16777216; decide), fun y H2 hy ks2 hS2 => ⟨_, _, rfl, ?_⟩⟩
  obtain ⟨z, hz, rfl⟩ := List.mem_map.mp hy
  have g0 : gapOk z = true := gap_in ((show ∀ z ∈ (["", " ", "\n\n", "// a ~ b\n"] : List Str), z ∈ gapP by decide +kernel) z hz)
  obtain ⟨l1, l2⟩ := gap_len g0
  have r0 := gap_runs g0 0
  have ks2 := (Ks.up (s := s) (q := q) ha1 (.lst ((["", " ", "\n\n", "// a ~ b\n"] : List Str).map V.str))).trans ks2
  have hp2 := ks2 _ _ ps pq hp
  refine ⟨_, rfl, p, rfl, ⟨_, SqL.of hp2⟩, for_list (xs := wdV ws) (fun i σ H' => ∃ (t lw : List Nat) (o4 o5 o6 o7 : Option V), σ = [some (.ref s), some (.ref p), some (.str (S t)), some (.str (S lw)), o4, o5, o6, o7] ∧ lw.length ≤ 20 ∧ TxW t i ((ws.take i).map fgs).sum ((ws.take i).map nsg).sum ∧ Ks s q H H' ∧ SrcAt H' s q ∧ H' p = some (.lst (wdV ws)))
    ⟨z.cps.toList, [40], _, _, _, _, by rw [S_of]; rfl, by decide, ⟨by omega, by omega, r0.2, by rw [l2]; exact Nat.zero_le _⟩, ks2, hS2, hp2⟩ (fun i σ H' _ ⟨_, _, _, _, _, _, _, _, _, _, _, h⟩ => SqL.of h) (fun i y σ H' hy ⟨t, lw, o4, o5, o6, o7, e, hlw, tx, ks, hs, hpp⟩ => ?_) (fun σ H' ⟨t, lw, o4, o5, o6, o7, e, hlw, tx, ks, hs, hpp⟩ => ?_)⟩
  · subst e
    have hi : i < ws.length := by
      have := (List.getElem?_eq_some_iff.mp hy).1
      rw [wdV_len] at this
      exact this
    have hv : ws[i]? = some ws[i] := List.getElem?_eq_getElem hi
    have ey : y = .str (S ws[i]) := by
      unfold wdV at hy
      rw [List.getElem?_map, hv] at hy
      exact (Option.some.inj hy).symm
    subst ey
    have tks := take_succ_of hv
    have okv := wds.ok _ (List.getElem_mem hi)
    clear hy
    generalize ws[i] = v at hv tks okv
    have lw1 : (S lw).length ≤ 1000 := by rw [S_len]; omega
    have lv1 : (S v).length ≤ 1000 := by rw [S_len]; omega
    -- gaps
    refine ⟨_, _, rfl, rfl, fit3' (show 4 ≤ 1000 by decide), _, _, rfl, rfl, fit3' (show 8 ≤ 1000 by decide), fit3 (by show 6 ≤ 10; decide), fun a ha => ?_⟩
    have sA := same_up ha (.lst (gap6.map V.str))
    have eA : (upd H' a (.lst (gap6.map V.str))) a = some (.lst (gap6.map V.str)) := upd_same
    refine more_gaps (zs := gap6) (more := ["// x\n", "//\n"]) rfl eA rfl (by decide) (tt_test (bool_ne (str_last rfl lw1))) fun H2 p2 zs2 s2 e2 c2 d2 => ?_
    have fr2 : H' p2 = none := by
      rcases c2 with c2 | c2
      · rw [c2]; exact ha
      · exact sm_none sA c2
    refine bool_and (bool_in (str_last rfl lw1)) (bool_in (str_first rfl lv1)) _ fun b6 => ?_
    refine bool_or (bool_alnum (str_last rfl lw1)) (bool_eq (str_last rfl lw1)) _ fun b7 => ?_
    refine bool_and (bool_var rfl) (bool_or (bool_alnum (str_first rfl lv1)) (bool_eq (str_first rfl lv1))) _ fun b8 => ?_
    have l2 : zs2.length ≤ 8 := by
      rcases d2 with d | d <;> (rw [d]; decide)
    refine more_gaps (zs := zs2) (more := ["", "", "", "", "", ""]) rfl e2 rfl (by show zs2.length + 6 ≤ 1000; omega) (tt_and (tt_not (tt_val (bool_var rfl))) (tt_not (tt_val (bool_var rfl)))) fun H3 p3 zs3 s3 e3 c3 d3 => ?_
    have s13 : Same H' H3 := sA.trans (s2.trans s3)
    have fr3 : H' p3 = none := by
      rcases c3 with c3 | c3
      · rw [c3]; exact fr2
      · exact sm_none (sA.trans s2) c3
    have n3 := hs.new fr3
    have good : ∀ z ∈ zs3, gapOk z = true := by
      have g6 := gap_list gap6 (by decide +kernel)
      have gm := gap_list ["// x\n", "//\n"] (by decide +kernel)
      have ge := gap_list ["", "", "", "", "", ""] (by decide +kernel)
      have h2 : ∀ z ∈ zs2, gapOk z = true := fun z hz => by
        rcases d2 with d | d
        · rw [d] at hz; exact g6 z hz
        · rw [d] at hz
          exact (List.mem_append.mp hz).elim (g6 z) (gm z)
      intro z hz
      rcases d3 with d | d
      · rw [d] at hz; exact h2 z hz
      · rw [d] at hz
        exact (List.mem_append.mp hz).elim (h2 z) (ge z)
    have ne3 : zs3 ≠ [] := by
      have n2 : zs2 ≠ [] := by rcases d2 with d | d <;> (rw [d]; exact fun z => nomatch z)
      rcases d3 with d | d
      · rw [d]; exact n2
      · rw [d]; exact fun z => n2 (List.append_eq_nil_iff.mp z).1
    have l3 : zs3.length ≤ 14 := by
      rcases d3 with d | d
      · rw [d]; omega
      · rw [d, List.length_append]
        show zs2.length + 6 ≤ 14
        omega
    refine ⟨_, rfl, _, rfl, _, rfl, s, q, p3, _, rfl, hs.same s13, e3, n3.1, n3.2, (fun z => ne3 (List.map_eq_nil_iff.mp z)), (by rw [List.length_map]; omega), fun y H4 hy ks4 hS4 => ?_⟩
    obtain ⟨z, hz, rfl⟩ := List.mem_map.mp hy
    have gz := good z hz
    obtain ⟨lz, _⟩ := gap_len gz
    have zl : z.length = z.cps.toList.length := by simp [Str.length]
    have tl := tx.len
    have il : i ≤ 10000 := by omega
    have e1 : S t ++ z = S (t ++ z.cps.toList) := by rw [← S_app, S_of]
    refine ⟨_, _, rfl, rfl, ?_, _, rfl, _, _, rfl, rfl, ?_, _, rfl, _, _, rfl, (t ++ z.cps.toList) ++ v, v, some (.str (S v)), some (.ref p3), some (.bl b6), some (.bl b8), ?_, okv.2.1, ?_, ks.trans ((Ks.same s13).trans ks4), hS4, ks4 _ _ ps pq (s13 _ _ hpp)⟩
    · rw [S_len, zl]
      exact Nat.le_trans (show _ ≤ 400000 by omega) (by decide)
    · rw [e1, S_len, S_len, List.length_append]
      exact Nat.le_trans (show _ ≤ 400000 by omega) (by decide)
    · rw [e1, S_app]
      rfl
    · have tw := tx.word gz okv.2.1
      rw [tks, List.map_append, List.map_append, List.sum_append, List.sum_append]
      simpa using tw
  · subst e
    rw [wdV_len, List.take_length] at tx
    refine ⟨_, rfl, _, rfl, fit3 (by show 5 ≤ 10; decide), fun a2 ha2 => ?_⟩
    have n2 := hs.new ha2
    refine ⟨s, q, a2, (["", " ", "\n", " // end", " //\n"] : List Str).map V.str, rfl, hs.up ha2 _, upd_same, n2.1, n2.2, (fun z => nomatch z), (by show 5 ≤ 16777216; decide), fun y H3 hy ks3 hS3 => ?_⟩
    obtain ⟨z, hz, rfl⟩ := List.mem_map.mp hy
    have g1 : gapOk z = true := gap_in ((show ∀ z ∈ (["", " ", "\n", " // end", " //\n"] : List Str), z ∈ gapP by decide +kernel) z hz)
    obtain ⟨q1, q2, q3, q4⟩ := tx.gap g1
    have f1 := wds.fg
    have f2 := wds.ns
    have zl : z.length = z.cps.toList.length := by simp [Str.length]
    obtain ⟨l3, _⟩ := gap_len g1
    refine ⟨_, _, rfl, rfl, ?_, ?_⟩
    · rw [S_len, zl]
      have := tx.len
      exact Nat.le_trans (show _ ≤ 400000 by omega) (by decide)
    · rw [show S t ++ z = S (t ++ z.cps.toList) by rw [← S_app, S_of]]
      exact k _ _ ⟨by omega, by omega, by omega⟩ (ks.trans ((Ks.up ha2 _).trans ks3)) hS3
end
end K04
end

section
set_option Elab.async false
set_option maxRecDepth 100000
set_option maxHeartbeats 4000000
set_option pp.maxSteps 2000
/-! K27: what a read answers at a text, as the law asks it. -/
namespace K04
open PySem L2 PyProof.Rows
def tCallLS (i : Nat) (f : Addr) (sp : Sp) (E : L2.St → XK) (t : TA) : TE := fun σ H Q => σ[i]? = some (some (.ref f)) ∧ t σ H fun vs H1 => sp vs H1 Q (E σ)
section
variable {X : Cx} {CX : CXT} {k i : Nat} {f : Addr} {fd : FuncData} {ps : List Str} {sp : Sp} {E : L2.St → XK} {x : Str} {p pos : Pos} {e : Expr} {es : List Expr} {t : TA}
/-- a local name that holds a def, called where its exceptions are caught -/
theorem pe_callLS (F : FnOk X.prog X.w X.K X.mg X.base CX k f fd ps sp) (hr : Room k X.A) (hN : X.N[i]? = some x) (hv : Vis X.env.scope x) (hk : PySem.W.keepIn X.K (.ref f) = true) (hb : Binds X.K fd ps []) (hx : ∀ σ, PassesAt CX X σ (E σ)) (ha : PA X (e :: es) t)
    (hdb : (x == ("__debug__" : Str)) = false := by decide) (hcd : (x == ("__classdict__" : Str)) = false := by decide)
    (he : starEach (e :: es) X.env = (false, eval e X.env) :: starEach es X.env := by rfl) (hpl : (backTo pos (starEach es X.env)).any (·.1) = false := by rfl) : PE X (.Call (.Name x p) (e :: es) [] pos) (tCallLS i f sp E t) := by
  refine ⟨fun pins s σ H Q I h => ?_⟩
  obtain ⟨hs, ht⟩ := h
  refine wpAny_Call_Name_kw (thn ((pe_var (pos := p) hN hv hdb hcd).run pins s σ H (fun v H1 => v = .ref f ∧ H1 = H) I ⟨.ref f, hs, rfl, rfl⟩) fun u s1 ⟨v, H1, I1, r1, q1⟩ => ?_)
  obtain ⟨rfl, rfl⟩ := q1
  cases r1
  refine PySem.W.callWith_K (h₀ := X.base) I.ok.mod.kin hk (thn (ha.run pos pins s1 σ _ _ I1 ht) fun us s2 ⟨vs, H2, I2, r, q⟩ => ⟨I2.kIn, ?_⟩) he hpl
  exact run_fnS F hr hb (hx σ) I2 r q
end
section
variable {P : Program} {w : World} {K : PySem.W.Frag} {mg : Str → Option Value} {base : Heap} {C CB f1 cc cda : Addr}
theorem sc_lw_place : FnScope ["_law_call", "_law_text", "error"] ["_law_call", "_law_text"] (defScope (topS 66)) := ⟨rfl, rfl, rfl, by decide +kernel, rfl, by decide +kernel, by decide +kernel⟩
def spPl (f : Addr) (form : Str) (n : Nat) : Sp := fun vs H Q _ => ∃ (u : List Nat) (r : Option Nat), vs = [.ref f, .str (S u)] ∧ u.length ≤ 1000000 ∧ Rn u r [form] (lexAt u 0) ∧ nest u (lexAt u 0) < n ∧
  ∀ p H', Same H H' → H p = none → H' p = some (.lst (wrV r)) → Q (.ref p) H'
theorem boot_tupT : bootBuiltins "tuple" = some (.type "tuple") := by decide +kernel
theorem ok_lw_place1 {x : Str} {st0 : Stmt} (A : LA P K mg C CB f1 cc cda) (Z : LwTx K mg) (xc : XfC K CB) (D : Df K mg x st0 ["text"]) {form : Str} {n k : Nat} (F : FnOk P w K mg base (L2.CX P w) k D.f D.fd ["text"] (spRead CB form n)) :
    FnOk P w K mg base CX0 (k + 1) Z.lw_place.f Z.lw_place.fd ["_law_call", "_law_text"] (spPl D.f form n) := by
  refine Z.lw_place.F.ok sc_lw_place (fun vs H Q E h => ?_) (fun cdv _ outer s H vs Q E hr h => ?_)
  · obtain ⟨u, r, rfl, _⟩ := h
    rfl
  obtain ⟨u, r, rfl, hl, hrn, hn, k0⟩ := h
  have nd := sc_lw_place.nd
  refine ⟨_, pss_one (ps_try_as (i := 2) (tb := fun W => tRet (tIf (tB (tCB (rIsi K) (tCons (tCallLS 0 D.f (spRead CB form n) (WE W) (tCons (tVar 1) tNil)) (tCons (tC (.ty "tuple")) tNil)))) (tLst tNil) (tLst (tCons (tC (.str "told")) tNil))))
    (ts := fun a cls d => tRet (tLst (tCons (tXf a cls d CB "place" (tVar 2)) tNil))) (Wout := fun _ _ _ _ => False) rfl rfl nd rfl rfl ⟨rfl, by decide, Or.inl A.B.gC⟩ takes0
    (fun W pn xe tk _ => pss_one (ps_ret (pe_ifExp (pt_val (pe_callB call_isi (by rfl) Z.m_isinstance (by decide +kernel) (pa_cons (pe_callLS F hr rfl (.inl rfl) D.F.kp D.b (fun σ => passAt tk σ) (pa_cons (pv 1) pa_nil)) (pa_cons (pe_bltn (v := .ty "tuple") rfl Z.m_tuple boot_tupT rfl) pa_nil)))) (pe_lst pa_nil) (pe_lst (pa_cons pe_str pa_nil)))))
    (fun a oe cls d pn hz hf => pss_one (ps_ret (pe_lst (pa_cons (pe_xf xc A.B.np hz hf (pv 2)) pa_nil))))), ?_⟩
  refine ⟨rfl, _, rfl, u, r, rfl, hl, hrn, hn, fun p hp H' d sm hd => ?_, fun hr0 v H' iv sm => ?_⟩
  · subst hp
    exact ⟨true, A.B.te, fun _ a ha => ⟨_, rfl, rfl, rfl, d, _, .int p, rfl, hd, rfl, fit3 (by show 1 ≤ 10; decide), fun pl hpl => k0 pl _ (sm.trans (same_up hpl _)) (sm_none sm hpl) upd_same⟩, fun q => nomatch q⟩
  · subst hr0
    obtain ⟨tp, xs, rfl, et⟩ := iv
    exact ⟨_, _, _, _, true, rfl, .ty "tuple", .base (.tup et), kit_ty (by decide +kernel), _, rfl, iteT ⟨fit3 (Nat.zero_le _), fun pl hpl => k0 pl _ (sm.trans (same_up hpl _)) (sm_none sm hpl) upd_same⟩⟩
end
end K04
end

section
set_option Elab.async false
set_option maxRecDepth 100000
set_option maxHeartbeats 4000000
set_option pp.maxSteps 2000
/-! K28: texts that are cut; the texts that are written in the law. -/
namespace K04
open PySem L2 PyProof.Rows
/-! ### a cut of a drawn text -/
theorem long_no {u : List Nat} (h : ∀ l, LxOk u l → l.kd = .numeral → l.tx.length ≤ 600) : ∀ (n : Nat) (st : List Str) (l : Lx) (y : Option Nat × Bool), LxOk u l → out u n st l = some y → y.2 = false
  | 0, _, _, _, _, e => by cases e
  | n + 1, st, l, y, ok, e => by
    have hl : long st l = false := by
      unfold long
      cases st with
      | nil => rfl
      | cons s st =>
        dsimp only
        by_cases c : l.kd = .numeral
        · rw [decide_eq_false (show ¬ 600 < l.tx.length by have := h l ok c; omega), Bool.and_false]
        · rw [beq_eq_false_iff_ne.mpr c, Bool.and_false, Bool.false_and]
    unfold out at e
    cases q : step u st l with
    | fin =>
      rw [q] at e
      cases e
      rfl
    | fail p =>
      rw [q] at e
      cases e
      rfl
    | go st' l' =>
      rw [q] at e
      dsimp only at e
      cases q2 : out u n st' l' with
      | none => rw [q2] at e; cases e
      | some z =>
        rw [q2] at e
        have ih := long_no h n st' l' z (step_less ok q).1 q2
        cases e
        show (z.2 || long st l) = false
        rw [ih, hl]
        rfl
theorem num_short {u : List Nat} (h : mxr 0 u ≤ 600) (l : Lx) (ok : LxOk u l) (hk : l.kd = .numeral) : l.tx.length ≤ 600 := by
  obtain ⟨b, e⟩ := ok.pre
  have e1 : u = u.take l.pl ++ (l.tx ++ b) := by rw [e, List.take_append_drop]
  have a1 := mxr_all l.tx b 0 (ok.dg hk)
  have a2 := mxr_tail (u.take l.pl) (l.tx ++ b) 0
  rw [← e1] at a2
  omega
/-- what the law and the program are asked of a text -/
structure Ask (u : List Nat) (form : Str) (r : Option Nat) : Prop where
  len : u.length ≤ 1000000
  ne : nest u (lexAt u 0) < 33
  rn : Rn u r [form] (lexAt u 0)
theorem nest_nsg (u : List Nat) (l : Lx) : nest u l ≤ nsg u := List.Sublist.countP_le (List.drop_sublist _ _)
theorem cut_ask {t : List Nat} {n f g : Nat} (h : TxOk t n f g) (hn : n ≤ 10000) (hf : f ≤ 599) (hg : g ≤ 32) (c : Nat) (form : Str) : ∃ r, Ask (t.take c) form r := by
  have l1 := h.len
  have l2 := h.mx
  have l3 := h.ns
  have e : t = t.take c ++ t.drop c := (List.take_append_drop c t).symm
  have m1 := mxr_pre (t.take c) (t.drop c) 0
  rw [← e] at m1
  have n1 : nsg (t.take c) ≤ nsg t := List.Sublist.countP_le (List.take_sublist _ _)
  have ok := lexAt_ok (t.take c) 0
  obtain ⟨y, hy⟩ := out_ends (t := t.take c) _ [form] _ ok (Nat.lt_succ_self _)
  have hb := long_no (fun l ok hk => num_short (by omega) l ok hk) _ _ _ _ ok hy
  obtain ⟨y1, y2⟩ := y
  dsimp only at hb
  subst hb
  refine ⟨y1, ?_, ?_, ⟨_, hy⟩⟩
  · have : (t.take c).length ≤ t.length := List.length_take_le' _ _
    omega
  · have := nest_nsg (t.take c) (lexAt (t.take c) 0)
    omega
/-! ### the written texts -/
def hsome0 : List (Str × Nat) := [("design { }", 9), ("design { module m { in a 8", 25), ("design { module m { } top m ; } m", 32), ("", 0)]
def hsome1 : List (Str × Nat) := [("design { module m size { } top m ; }", 23), ("design{module m{}top m;}", 24), ("design", 6)]
def hsome2 : List (Str × Nat) := [("design{module m{when 1{}else{}}top m;}", 29), ("design{module m{x = a}top m;}", 21), ("modul", 0)]
def hsome3 : List (Str × Nat) := [("design{module m{reg r bits 1 = 0 < - a;}top m;}", 35), ("design{module in{}top m;}", 14)]
def hsome4 : List (Str × Nat) := [("design{module m{x[] = a;}top m;}", 18), ("design{module m{u : v (a = b,);}top m;}", 29)]
def hsome5 : List (Str × Nat) := [("design{module m{mem x[4] bits 8 <- a when b;}top m;}", 32), (" // x", 5)]
def hsome6 : List (Str × Nat) := [("design{module m{x : = a;}top m;}", 20), ("design{module m{x[1] : m ();}top m;}", 21)]
def Hsome : List (Str × Nat) := hsome0 ++ hsome1 ++ hsome2 ++ hsome3 ++ hsome4 ++ hsome5 ++ hsome6
def hmore0 : List (Str × Nat) := [("a +", 3), ("a ? b", 5), ("a ? b : c : d", 10), ("bits(8)", 6), ("a{1}", 3), ("(a", 2), ("a b", 2)]
def hmore1 : List (Str × Nat) := [("a.3", 2), ("a@", 2), ("a@~b", 2), ("~", 1), ("a < b <- c", 6), ("u.x[1]", 3), ("a[b.c]", 3)]
def hmore2 : List (Str × Nat) := [("a!", 2), ("1", 0)]
def Hmore : List (Str × Nat) := hmore0 ++ hmore1 ++ hmore2
def hlast0 : List (Str × Nat) := [("1 +", 3), ("(1", 2), ("1 << 2", 2), ("w n", 2), ("bits", 0), ("1 < 2 == 3 -", 12), ("-1", 0), ("()", 1)]
def Hlast : List (Str × Nat) := hlast0
def DUE0 : Str := "design{module m{}top m;}"
def dueOf (z : Str) (p : Nat) : Option Nat := if p = z.length ∧ z = DUE0 then none else some p
def chk (form : Str) (r : Option Nat) (u : List Nat) : Bool := decide (u.length ≤ 6000) && decide (nsg u ≤ 32) && (out u 1000000 [form] (lexAt u 0) == some (r, false))
theorem ask_of {form : Str} {r : Option Nat} {u : List Nat} (h : chk form r u = true) : Ask u form r := by
  unfold chk at h
  simp only [Bool.and_eq_true, decide_eq_true_eq, beq_iff_eq] at h
  have := nest_nsg u (lexAt u 0)
  exact ⟨by omega, by omega, _, h.2⟩
theorem some_ok : (Hsome.all fun z => chk "DESIGN" (dueOf z.1 z.2) z.1.cps.toList) = true := by decide +kernel
theorem more_ok : (Hmore.all fun z => chk "EWHOLE" (dueOf z.1 z.2) z.1.cps.toList) = true := by decide +kernel
theorem last_ok : (Hlast.all fun z => chk "NUMWHOLE" (some z.2) z.1.cps.toList) = true := by decide +kernel
theorem long1 : (["DESIGN", "EWHOLE"].all fun f => chk f (some 0) (List.replicate 17 97) && chk f (some 0) (List.replicate 5000 49 ++ [120])) = true := by decide +kernel
theorem long2 : (chk "NUMWHOLE" (some 2) ([49, 32] ++ List.replicate 5000 55) && chk "NUMWHOLE" (some 0) [36] && chk "NUMWHOLE" (some 1) [49, 36]) = true := by decide +kernel
theorem deep1 : (chk "EWHOLE" none (List.replicate 30 40 ++ [97] ++ List.replicate 30 41) && chk "EWHOLE" (some 60) (List.replicate 30 40 ++ [97] ++ List.replicate 29 41)) = true := by decide +kernel
end K04
end

section
set_option Elab.async false
set_option maxRecDepth 100000
set_option maxHeartbeats 4000000
set_option pp.maxSteps 2000
/-! K29: the texts that are written in the law, asked. -/
namespace K04
open PySem L2 PyProof.Rows
/-! ### a sign times a number -/
theorem rep_sign (c : Nat) : ∀ (k : Nat) (a : List Nat), (List.replicate k (#[c] : Array Nat)).foldl (· ++ ·) a.toArray = (a ++ List.replicate k c).toArray
  | 0, a => by simp
  | k + 1, a => by
    rw [List.replicate_succ, List.foldl_cons, show a.toArray ++ #[c] = (a ++ [c]).toArray by simp, rep_sign c k (a ++ [c]), List.replicate_succ, List.append_assoc]
    rfl
section
variable {X : Cx}
def rMulS : R2 := fun x y H Q => ∃ (c k : Nat), x = V.str ⟨#[c]⟩ ∧ y = V.int (k : Nat) ∧ 2 ≤ k ∧ k ≤ 10000 ∧ Q (.str (S (List.replicate k c))) H
theorem op_mulS : OpR X (binaryOp .Mult) rMulS := by
  intro pins s σ H x y v u Q I rx ry h
  obtain ⟨c, k, rfl, rfl, h1, h2, q⟩ := h
  obtain ⟨t, rfl⟩ := rx
  obtain ⟨t', rfl⟩ := ry
  have l1 : (⟨#[c]⟩ : Str).length = 1 := rfl
  have nb : (((k : Nat) : Int) == 1 || (⟨#[c]⟩ : Str).length == 0) = false := by
    rw [l1, beq_eq_false_iff_ne.mpr (by omega)]
    rfl
  have nl : ¬ ((k : Nat) : Int) < 1 := by omega
  have tl : Builtin.Str.tooLong ((⟨#[c]⟩ : Str).length * ((k : Nat) : Int).toNat) = false := by
    rw [l1, Nat.one_mul, Int.toNat_natCast]
    unfold Builtin.Str.tooLong
    refine decide_eq_false ?_
    have : (sizeLine : Nat) = 16777216 := by decide
    omega
  refine PySem.P.mul_str (by rw [decide_eq_false (by omega), decide_eq_false (by omega)]; rfl) (fun _ _ => ?_) (fun _ _ => tl) ?_
  · rw [l1]
    have h3 : (1 : Int) ≤ (2 ^ 63 - 1) / ((k : Nat) : Int) := Int.le_ediv_of_mul_le (by omega) (by omega)
    omega
  · rw [if_neg nl, if_neg (by rw [nb]; decide)]
    have e : (List.replicate ((k : Nat) : Int).toNat (⟨#[c]⟩ : Str).cps).foldl (· ++ ·) #[] = (List.replicate k c).toArray := by
      rw [Int.toNat_natCast]
      exact rep_sign c k []
    rw [e]
    refine ⟨?_, .str (S (List.replicate k c)), H, I.tok _, ⟨_, rfl⟩, q⟩
    have el : (⟨(List.replicate k c).toArray⟩ : Str).length = k := by simp [Str.length]
    rw [el]
    exact Nat.le_trans h2 (by decide)
end
/-! ### lists of texts and places -/
def PrAt (H : Hp) (v : V) (z : Str × Nat) : Prop := ∃ t, v = .ref t ∧ H t = some (.tup [.str z.1, .int (z.2 : Nat)])
def PrsAt (H : Hp) (a : Addr) (zs : List (Str × Nat)) : Prop := ∃ vs, H a = some (.lst vs) ∧ Paired (PrAt H) vs zs
theorem PrAt.same {H H' : Hp} {v : V} {z : Str × Nat} (h : PrAt H v z) (s : Same H H') : PrAt H' v z := by
  obtain ⟨t, rfl, e⟩ := h
  exact ⟨t, rfl, s _ _ e⟩
theorem PrsAt.same {H H' : Hp} {a : Addr} {zs : List (Str × Nat)} (h : PrsAt H a zs) (s : Same H H') : PrsAt H' a zs := by
  obtain ⟨vs, e, p⟩ := h
  exact ⟨vs, s _ _ e, paired_imp (fun _ _ x => PrAt.same x s) p⟩
def pairTA : List (Str × Nat) → TA
  | [] => tNil
  | z :: zs => tCons (tTup (tCons (tC (.str z.1)) (tCons (tC (.int (z.2 : Nat))) tNil))) (pairTA zs)
theorem pairTA_of : ∀ (zs : List (Str × Nat)) {σ : L2.St} {H : Hp} {Q : List V → Hp → Prop}, (∀ vs H', Same H H' → Paired (PrAt H') vs zs → Q vs H') → pairTA zs σ H Q
  | [], _, H, _, k => k [] H (Same.refl _) .nil
  | z :: zs, σ, H, Q, k => ⟨fit3 (by show 2 ≤ 10; decide), fun t ht => pairTA_of zs fun vs H' s p => k _ H' ((same_up ht _).trans s) (.cons ⟨t, rfl, s _ _ upd_same⟩ p)⟩
section
variable {σ : L2.St} {H : Hp} {D : Ends} {u : TS} {i : Nat} {ta : TA} {zs ws : List (Str × Nat)}
theorem q_pset (e : ta = pairTA zs) (hl : zs.length ≤ 1000) (k : ∀ p H', Same H H' → PrsAt H' p zs → u D (σ.set i (some (.ref p))) H') : tSeq (tAsg (tLst ta) (gName i)) u D σ H := by
  subst e
  exact pairTA_of zs fun vs H' s p => ⟨by rw [p.length]; exact fit3' hl, fun a ha => k a _ (s.trans (same_up ha _)) ⟨vs, upd_same, paired_imp (fun _ _ x => PrAt.same x (same_up ha _)) p⟩⟩
theorem q_pcat {a : Addr} (hi : σ[i]? = some (some (.ref a))) (hz : PrsAt H a zs) (e : ta = pairTA ws) (hl : zs.length + ws.length ≤ 1000) (k : ∀ p H', Same H H' → PrsAt H' p (zs ++ ws) → u D (σ.set i (some (.ref p))) H') : tSeq (tAsg (tOp rCat (tVar i) (tLst ta)) (gName i)) u D σ H := by
  subst e
  refine ⟨_, hi, pairTA_of ws fun vs H' s p => ⟨by rw [p.length]; exact fit3' (by omega), fun b hb => ?_⟩⟩
  obtain ⟨us, ea, pa⟩ := hz
  have s2 := s.trans (same_up hb (.lst vs))
  refine ⟨a, b, us, vs, rfl, rfl, s2 _ _ ea, upd_same, by rw [p.length, pa.length]; exact fit3' hl, fun c hc => k c _ (s2.trans (same_up hc _)) ⟨us ++ vs, upd_same, paired_app (paired_imp (fun _ _ x => PrAt.same x (s2.trans (same_up hc _))) pa) (paired_imp (fun _ _ x => PrAt.same x ((same_up hb _).trans (same_up hc _))) p)⟩⟩
end
/-! ### the three forms and their reads -/
inductive F3 | d | e | n
def fName : F3 → Str
  | .d => "DESIGN"
  | .e => "EWHOLE"
  | .n => "NUMWHOLE"
def fAddr {K : PySem.W.Frag} {mg : Str → Option Value} (X : TxTx K mg) : F3 → Addr
  | .d => X.read_design.f
  | .e => X.read_expression.f
  | .n => X.read_number.f
theorem fn_any {P : Program} {w : World} {K : PySem.W.Frag} {mg : Str → Option Value} {base : Heap} {CX : CXT} {k : Nat} {f : Addr} {fd : FuncData} {ps : List Str} {I : Type} {sp : I → Sp} (h : ∀ i, FnOk P w K mg base CX k f fd ps (sp i)) :
    FnOk P w K mg base CX k f fd ps (fun vs H Q E => ∃ i, sp i vs H Q E) :=
  ⟨fun vs H Q E ⟨i, q⟩ => (h i).len vs H Q E q, fun A outer s H args us vs Q E hr he hb hv ⟨i, q⟩ => (h i).run A outer s H args us vs Q E hr he hb hv q⟩
/-- lists of one answer -/
theorem wr_shaped (r : Option Nat) : ∃ ds, SeqAt.shaped (.list ds) = true ∧ PyData.eqv (.list ds) (.list ds) = true ∧ ∀ (K : PySem.W.Frag) (H : Hp) (a : Addr), H a = some (.lst (wrV r)) → Dp K H (.ref a) (.list ds) := by
  cases r with
  | none => exact ⟨[], rfl, rfl, fun K H a h => .lst (SqL.of h) .nil⟩
  | some p =>
    refine ⟨[.int (p : Nat)], rfl, ?_, fun K H a h => .lst (SqL.of h) (.cons (.int _) .nil)⟩
    show ((p : Nat) : Int) == ((p : Nat) : Int) && true
    simp
theorem ne_wr {K : PySem.W.Frag} {H : Hp} {a b : Addr} {r : Option Nat} {Q : VK} (ha : H a = some (.lst (wrV r))) (hb : H b = some (.lst (wrV r))) (k : Q (.bl false) H) : rNeD K (.ref a) (.ref b) H Q := by
  obtain ⟨ds, h1, h2, h3⟩ := wr_shaped r
  refine ⟨_, _, h3 K H a ha, h3 K H b hb, h1, h1, ?_⟩
  rw [h2]
  exact k
theorem eq_wr {K : PySem.W.Frag} {H : Hp} {a b : Addr} {r : Option Nat} {Q : VK} (ha : H a = some (.lst (wrV r))) (hb : H b = some (.lst (wrV r))) (k : Q (.bl true) H) : rEqD K (.ref a) (.ref b) H Q := by
  obtain ⟨ds, h1, h2, h3⟩ := wr_shaped r
  refine ⟨_, _, h3 K H a ha, h3 K H b hb, h1, h1, ?_⟩
  rw [h2]
  exact k
section
variable {P : Program} {w : World} {K : PySem.W.Frag} {mg : Str → Option Value} {base : Heap} {C CB f1 cc cda : Addr}
def spPlA (X : TxTx K mg) : Sp := fun vs H Q E => ∃ i : F3, spPl (fAddr X i) (fName i) 33 vs H Q E
theorem ok_lw_place (A : LA P K mg C CB f1 cc cda) (T : RdTx w K mg) (X : TxTx K mg) (Z : LwTx K mg) (xc : XfC K CB) : FnOk P w K mg base CX0 183 Z.lw_place.f Z.lw_place.fd ["_law_call", "_law_text"] (spPlA X) := by
  refine fn_any fun i => ?_
  cases i with
  | d => exact ok_lw_place1 A Z xc X.read_design (readD_ok A T X 33)
  | e => exact ok_lw_place1 A Z xc X.read_expression (readE_ok A T X 33)
  | n => exact ok_lw_place1 A Z xc X.read_number (readN_ok A T X 33)
/-- the read's answer at a text -/
theorem rd_place {X : TxTx K mg} {i : F3} {u : List Nat} {r : Option Nat} {z : Str} {H : Hp} {Q : VK} {E : XK} (a : Ask u (fName i) r) (hz : z = S u) (k : ∀ p H', Same H H' → H p = none → H' p = some (.lst (wrV r)) → Q (.ref p) H') : spPlA X [.ref (fAddr X i), .str z] H Q E :=
  ⟨i, u, r, by rw [hz], a.len, a.rn, a.ne, k⟩
theorem rd_wrong {G : Addr → Prop} {d : Addr} {i : F3} {u : List Nat} {r : Option Nat} {z : Str} {H : Hp} {Q : VK} {E : XK} (a : Ask u (fName i) r) (hR : RulesAt G H d) (hz : z = S u) (k : ∀ p H', Same H H' → H p = none → H' p = some (.lst (wrV r)) → Q (.ref p) H') : spWrong [.ref d, .str z, .str (fName i)] H Q E := by
  obtain ⟨n, hn⟩ := a.rn
  exact ⟨G, d, u, fName i, r, by rw [hz], a.len, hR, by cases i <;> decide +kernel, ⟨n, false, hn⟩, k⟩
theorem fn_any_ne (i : F3) : fName i ≠ ("ANY" : Str) := by cases i <;> decide +kernel
theorem RulesAt.same {G : Addr → Prop} {H H' : Hp} {d : Addr} (h : RulesAt G H d) (s : Same H H') : RulesAt G H' d := by
  obtain ⟨kvs, e, q⟩ := h
  exact ⟨kvs, s _ _ e, fun z => (q z).lk (Lk.same s) fun _ h => h⟩
theorem sc_lw_hand_right : FnScope ["_law_rules", "_law_some", "_law_more", "_law_last", "_law_form", "_law_call", "_law_rows", "_law_text", "_law_place_here", "_law_due", "_law_deep"] ["_law_rules"] (defScope (topS 67)) := ⟨rfl, rfl, rfl, by decide +kernel, rfl, by decide +kernel, by decide +kernel⟩
def spHand : Sp := fun vs H Q _ => ∃ (G : Addr → Prop) (d : Addr), vs = [.ref d] ∧ RulesAt G H d ∧ ∀ H', Same H H' → Q (.bl true) H'
/-- what is due, as the law writes it -/
theorem due_te {z : Str} {p : Nat} {σ : L2.St} {H : Hp} {Q : VK} (h7 : σ[7]? = some (some (.str z))) (h8 : σ[8]? = some (some (.int (p : Nat)))) (hz : z.length ≤ sizeLine) (k : ∀ a, H a = none → Q (.ref a) (upd H a (.lst (wrV (dueOf z p))))) :
    tIf (tAnd (tTest (tOp rEq (tVar 8) (tCB (fun xs H Q => ∃ a, xs = [V.str a] ∧ a.length ≤ sizeLine ∧ Q (V.int a.length) H) (tCons (tVar 7) tNil)))) (tTest (tOp rEq (tVar 7) (tC (.str DUE0))))) (tLst tNil) (tLst (tCons (tVar 8) tNil)) σ H Q := by
  refine ⟨_, h8, _, h7, _, rfl, hz, rfl, _, rfl, ?_⟩
  have e1 : decide (V.int ((p : Nat) : Int) = V.int ((z.length : Nat) : Int)) = decide (p = z.length) := decide_eq_decide.mpr ⟨fun h => by have := V.int.inj h; omega, fun h => by rw [h]⟩
  rw [e1]
  unfold dueOf at k
  by_cases c1 : p = z.length
  · rw [decide_eq_true c1]
    refine iteT ⟨_, h7, rfl, _, rfl, ?_⟩
    rw [eqS]
    by_cases c2 : z = DUE0
    · rw [decide_eq_true c2]
      rw [if_pos ⟨c1, c2⟩] at k
      exact iteT ⟨fit3 (Nat.zero_le _), k⟩
    · rw [decide_eq_false c2]
      rw [if_neg (fun q => c2 q.2)] at k
      exact iteF ⟨_, h8, fit3 (by show 1 ≤ 10; decide), k⟩
  · rw [decide_eq_false c1]
    rw [if_neg (fun q => c1 q.1)] at k
    exact iteF (iteF ⟨_, h8, fit3 (by show 1 ≤ 10; decide), k⟩)
/-- a list of texts whose answers are known -/
def Kn (f : F3) (H : Hp) (y : V) : Prop := ∃ (t : Addr) (u : List Nat) (p : Nat), y = .ref t ∧ H t = some (.tup [.str (S u), .int (p : Nat)]) ∧ Ask u (fName f) (dueOf (S u) p) ∧ u.length ≤ 6000
theorem Kn.same {f : F3} {H H' : Hp} {y : V} (h : Kn f H y) (s : Same H H') : Kn f H' y := by
  obtain ⟨t, u, p, e1, e2, e3⟩ := h
  exact ⟨t, u, p, e1, s _ _ e2, e3⟩
theorem chk_len {form : Str} {r : Option Nat} {u : List Nat} (h : chk form r u = true) : u.length ≤ 6000 := by
  unfold chk at h
  simp only [Bool.and_eq_true, decide_eq_true_eq] at h
  exact h.1.1
theorem kn_of {f : F3} {H : Hp} {zs : List (Str × Nat)} (hc : (zs.all fun z => chk (fName f) (dueOf z.1 z.2) z.1.cps.toList) = true) {vs : List V} (h : Paired (PrAt H) vs zs) : ∀ y ∈ vs, Kn f H y := fun y hy => by
  obtain ⟨z, hz, t, e1, e2⟩ := paired_mem h hy
  have c := List.all_eq_true.mp hc z hz
  exact ⟨t, z.1.cps.toList, z.2, e1, by rw [S_of]; exact e2, by rw [S_of]; exact ask_of c, chk_len c⟩
theorem due0 {u : List Nat} (h : u ≠ []) : dueOf (S u) 0 = some 0 := if_neg (fun q => by
  have z := q.1
  rw [S_len] at z
  exact h (List.length_eq_zero_iff.mp z.symm))
theorem s_x : ("x" : Str) = S [120] := by decide +kernel
def KnN (H : Hp) (y : V) : Prop := ∃ (t : Addr) (u : List Nat) (p : Nat), y = .ref t ∧ H t = some (.tup [.str (S u), .int (p : Nat)]) ∧ Ask u "NUMWHOLE" (some p)
theorem s_1 : ("1 " : Str) = S [49, 32] := by decide +kernel
theorem s_a : ("a" : Str) = S [97] := by decide +kernel
theorem hand_all : ((Hsome.all fun z => chk "DESIGN" (dueOf z.1 z.2) z.1.cps.toList) && (Hmore.all fun z => chk "EWHOLE" (dueOf z.1 z.2) z.1.cps.toList)) = true := by rw [some_ok, more_ok]; rfl
theorem ok_lw_hand_right (A : LA P K mg C CB f1 cc cda) (T : RdTx w K mg) (X : TxTx K mg) (Z : LwTx K mg) (xc : XfC K CB) : FnOk P w K mg base CX0 184 Z.lw_hand_right.f Z.lw_hand_right.fd ["_law_rules"] spHand := by
  have G_lw_place := ok_lw_place (base := base) A T X Z xc
  have G_lw_wrong_place := ok_lw_wrong_place (w := w) (P := P) (base := base) Z
  refine Z.lw_hand_right.F.ok sc_lw_hand_right (fun vs H Q E h => ?_) (fun cdv _ outer s H vs Q E hr h => ?_)
  · obtain ⟨G, d, rfl, _⟩ := h
    rfl
  obtain ⟨G, d, rfl, hR, k⟩ := h
  have nd := sc_lw_hand_right.nd
  refine ⟨_, (pss_cons (ps_set (i := 1) nd rfl (.inl rfl) (pe_lst (pa_cons (pe_tup (pa_cons pe_str (pa_cons pe_int pa_nil))) (pa_cons (pe_tup (pa_cons pe_str (pa_cons pe_int pa_nil))) (pa_cons (pe_tup (pa_cons pe_str (pa_cons pe_int pa_nil))) (pa_cons (pe_tup (pa_cons pe_str (pa_cons pe_int pa_nil))) pa_nil))))))
    (pss_cons (ps_set (i := 1) nd rfl (.inl rfl) (pe_op op_cat (pv 1) (pe_lst (pa_cons (pe_tup (pa_cons pe_str (pa_cons pe_int pa_nil))) (pa_cons (pe_tup (pa_cons pe_str (pa_cons pe_int pa_nil))) (pa_cons (pe_tup (pa_cons pe_str (pa_cons pe_int pa_nil))) pa_nil))))))
    (pss_cons (ps_set (i := 1) nd rfl (.inl rfl) (pe_op op_cat (pv 1) (pe_lst (pa_cons (pe_tup (pa_cons pe_str (pa_cons pe_int pa_nil))) (pa_cons (pe_tup (pa_cons pe_str (pa_cons pe_int pa_nil))) (pa_cons (pe_tup (pa_cons pe_str (pa_cons pe_int pa_nil))) pa_nil))))))
    (pss_cons (ps_set (i := 1) nd rfl (.inl rfl) (pe_op op_cat (pv 1) (pe_lst (pa_cons (pe_tup (pa_cons pe_str (pa_cons pe_int pa_nil))) (pa_cons (pe_tup (pa_cons pe_str (pa_cons pe_int pa_nil))) pa_nil)))))
    (pss_cons (ps_set (i := 1) nd rfl (.inl rfl) (pe_op op_cat (pv 1) (pe_lst (pa_cons (pe_tup (pa_cons pe_str (pa_cons pe_int pa_nil))) (pa_cons (pe_tup (pa_cons pe_str (pa_cons pe_int pa_nil))) pa_nil)))))
    (pss_cons (ps_set (i := 1) nd rfl (.inl rfl) (pe_op op_cat (pv 1) (pe_lst (pa_cons (pe_tup (pa_cons pe_str (pa_cons pe_int pa_nil))) (pa_cons (pe_tup (pa_cons pe_str (pa_cons pe_int pa_nil))) pa_nil)))))
    (pss_cons (ps_set (i := 1) nd rfl (.inl rfl) (pe_op op_cat (pv 1) (pe_lst (pa_cons (pe_tup (pa_cons pe_str (pa_cons pe_int pa_nil))) (pa_cons (pe_tup (pa_cons pe_str (pa_cons pe_int pa_nil))) pa_nil)))))
    (pss_cons (ps_set (i := 2) nd rfl (.inl rfl) (pe_lst (pa_cons (pe_tup (pa_cons pe_str (pa_cons pe_int pa_nil))) (pa_cons (pe_tup (pa_cons pe_str (pa_cons pe_int pa_nil))) (pa_cons (pe_tup (pa_cons pe_str (pa_cons pe_int pa_nil))) (pa_cons (pe_tup (pa_cons pe_str (pa_cons pe_int pa_nil))) (pa_cons (pe_tup (pa_cons pe_str (pa_cons pe_int pa_nil))) (pa_cons (pe_tup (pa_cons pe_str (pa_cons pe_int pa_nil))) (pa_cons (pe_tup (pa_cons pe_str (pa_cons pe_int pa_nil))) pa_nil)))))))))
    (pss_cons (ps_set (i := 2) nd rfl (.inl rfl) (pe_op op_cat (pv 2) (pe_lst (pa_cons (pe_tup (pa_cons pe_str (pa_cons pe_int pa_nil))) (pa_cons (pe_tup (pa_cons pe_str (pa_cons pe_int pa_nil))) (pa_cons (pe_tup (pa_cons pe_str (pa_cons pe_int pa_nil))) (pa_cons (pe_tup (pa_cons pe_str (pa_cons pe_int pa_nil))) (pa_cons (pe_tup (pa_cons pe_str (pa_cons pe_int pa_nil))) (pa_cons (pe_tup (pa_cons pe_str (pa_cons pe_int pa_nil))) (pa_cons (pe_tup (pa_cons pe_str (pa_cons pe_int pa_nil))) pa_nil))))))))))
    (pss_cons (ps_set (i := 2) nd rfl (.inl rfl) (pe_op op_cat (pv 2) (pe_lst (pa_cons (pe_tup (pa_cons pe_str (pa_cons pe_int pa_nil))) (pa_cons (pe_tup (pa_cons pe_str (pa_cons pe_int pa_nil))) pa_nil)))))
    (pss_cons (ps_set (i := 3) nd rfl (.inl rfl) (pe_lst (pa_cons (pe_tup (pa_cons pe_str (pa_cons pe_int pa_nil))) (pa_cons (pe_tup (pa_cons pe_str (pa_cons pe_int pa_nil))) (pa_cons (pe_tup (pa_cons pe_str (pa_cons pe_int pa_nil))) (pa_cons (pe_tup (pa_cons pe_str (pa_cons pe_int pa_nil))) (pa_cons (pe_tup (pa_cons pe_str (pa_cons pe_int pa_nil))) (pa_cons (pe_tup (pa_cons pe_str (pa_cons pe_int pa_nil))) (pa_cons (pe_tup (pa_cons pe_str (pa_cons pe_int pa_nil))) (pa_cons (pe_tup (pa_cons pe_str (pa_cons pe_int pa_nil))) pa_nil))))))))))
    (pss_cons (ps_for PassesOwn.never rfl (pi_list (pe_lst (pa_cons (pe_tup (pa_cons pe_str (pa_cons (pe_glob (v := .ref X.read_design.f) rfl X.read_design.g rfl) (pa_cons (pv 1) pa_nil)))) (pa_cons (pe_tup (pa_cons pe_str (pa_cons (pe_glob (v := .ref X.read_expression.f) rfl X.read_expression.g rfl) (pa_cons (pv 2) pa_nil)))) pa_nil)))) (pg_tup (by rfl) (pgs_cons (pg_name (i := 4) nd rfl (.inl rfl)) (pgs_cons (pg_name (i := 5) nd rfl (.inl rfl)) (pgs_cons (pg_name (i := 6) nd rfl (.inl rfl)) pgs_nil)))) (pss_one (ps_for PassesOwn.never rfl (pi_list (pe_op op_cat (pv 6) (pe_lst (pa_cons (pe_tup (pa_cons (pe_op op_mulS pe_str pe_int) (pa_cons pe_int pa_nil))) (pa_cons (pe_tup (pa_cons (pe_op op_add_str (pe_op op_mulS pe_str pe_int) pe_str) (pa_cons pe_int pa_nil))) pa_nil))))) (pg_tup (by rfl) (pgs_cons (pg_name (i := 7) nd rfl (.inl rfl)) (pgs_cons (pg_name (i := 8) nd rfl (.inl rfl)) pgs_nil))) (pss_cons (ps_set (i := 9) nd rfl (.inl rfl) (pe_ifExp (PW.pt (pw_and (pt_cmpR op_eq (pv 8) (pe_callB call_len_str (by rfl) Z.m_len PySem.boot_len (pa_cons (pv 7) pa_nil)) (nomark _)) (pw_and1 (pt_cmpR op_eq (pv 7) pe_str (nomark _))))) (pe_lst pa_nil) (pe_lst (pa_cons (pv 8) pa_nil))))
    (pss_one (ps_if (PW.pt (pw_or (pt_cmpR (op_neD hr.units) (pe_call G_lw_place (hr.mono (by omega)) rfl Z.lw_place.g Z.lw_place.F.kp Z.lw_place.b .nil pass0 (pa_cons (pv 5) (pa_cons (pv 7) pa_nil))) (pv 9) (nomark _)) (pw_or1 (pt_cmpR (op_neD hr.units) (pe_call G_lw_wrong_place (hr.mono (by omega)) rfl Z.lw_wrong_place.g Z.lw_wrong_place.F.kp Z.lw_wrong_place.b .nil pass0 (pa_cons (pv 0) (pa_cons (pv 7) (pa_cons (pv 4) pa_nil)))) (pv 9) (nomark _))))) (pss_one (ps_ret pe_bl)) pss_nil))))))
    (pss_cons (ps_for PassesOwn.never rfl (pi_list (pe_op op_cat (pv 3) (pe_lst (pa_cons (pe_tup (pa_cons (pe_op op_add_str pe_str (pe_op op_mulS pe_str pe_int)) (pa_cons pe_int pa_nil))) (pa_cons (pe_tup (pa_cons pe_str (pa_cons pe_int pa_nil))) (pa_cons (pe_tup (pa_cons pe_str (pa_cons pe_int pa_nil))) pa_nil)))))) (pg_tup (by rfl) (pgs_cons (pg_name (i := 7) nd rfl (.inl rfl)) (pgs_cons (pg_name (i := 8) nd rfl (.inl rfl)) pgs_nil))) (pss_one (ps_if (PW.pt (pw_or (pt_cmpR (op_neD hr.units) (pe_call G_lw_place (hr.mono (by omega)) rfl Z.lw_place.g Z.lw_place.F.kp Z.lw_place.b .nil pass0 (pa_cons (pe_glob (v := .ref X.read_number.f) rfl X.read_number.g rfl) (pa_cons (pv 7) pa_nil))) (pe_lst (pa_cons (pv 8) pa_nil)) (nomark _)) (pw_or1 (pt_cmpR (op_neD hr.units) (pe_call G_lw_wrong_place (hr.mono (by omega)) rfl Z.lw_wrong_place.g Z.lw_wrong_place.F.kp Z.lw_wrong_place.b .nil pass0 (pa_cons (pv 0) (pa_cons (pv 7) (pa_cons pe_str pa_nil)))) (pe_lst (pa_cons (pv 8) pa_nil)) (nomark _))))) (pss_one (ps_ret pe_bl)) pss_nil)))
    (pss_cons (ps_set (i := 10) nd rfl (.inl rfl) (pe_op op_add_str (pe_op op_add_str (pe_op op_mulS pe_str pe_int) pe_str) (pe_op op_mulS pe_str pe_int)))
    (pss_one (ps_ret (pe_and (pe_cmpR (op_eqD hr.units) (pe_call G_lw_place (hr.mono (by omega)) rfl Z.lw_place.g Z.lw_place.F.kp Z.lw_place.b .nil pass0 (pa_cons (pe_glob (v := .ref X.read_expression.f) rfl X.read_expression.g rfl) (pa_cons (pv 10) pa_nil))) (pe_lst pa_nil) (nomark _)) (pe_one (pe_cmpR (op_eqD hr.units) (pe_call G_lw_place (hr.mono (by omega)) rfl Z.lw_place.g Z.lw_place.F.kp Z.lw_place.b .nil pass0 (pa_cons (pe_glob (v := .ref X.read_expression.f) rfl X.read_expression.g rfl) (pa_cons (pe_slice sl_str (pv 10) po_none (po_some (pe_un un_neg pe_int))) pa_nil))) (pe_lst (pa_cons pe_int pa_nil)) (nomark _)))))))))))))))))))), ?_⟩
  refine q_pset (zs := hsome0) rfl (by decide) fun a H1 s1 p1 => ?_
  refine q_pcat (ws := hsome1) rfl p1 rfl (by decide) fun a H2 s2 p1 => ?_
  have s2 := s1.trans s2
  clear s1
  refine q_pcat (ws := hsome2) rfl p1 rfl (by decide) fun a H3 s3 p1 => ?_
  have s3 := s2.trans s3
  clear s2
  refine q_pcat (ws := hsome3) rfl p1 rfl (by decide) fun a H4 s4 p1 => ?_
  have s4 := s3.trans s4
  clear s3
  refine q_pcat (ws := hsome4) rfl p1 rfl (by decide) fun a H5 s5 p1 => ?_
  have s5 := s4.trans s5
  clear s4
  refine q_pcat (ws := hsome5) rfl p1 rfl (by decide) fun a H6 s6 p1 => ?_
  have s6 := s5.trans s6
  clear s5
  refine q_pcat (ws := hsome6) rfl p1 rfl (by decide) fun a1 H7 s7 p1 => ?_
  have s7 := s6.trans s7
  clear s6
  refine q_pset (zs := hmore0) rfl (by decide) fun a H8 s8 p2 => ?_
  have p1 := p1.same s8
  have s8 := s7.trans s8
  clear s7
  refine q_pcat (ws := hmore1) rfl p2 rfl (by decide) fun a H9 s9 p2 => ?_
  have p1 := p1.same s9
  have s9 := s8.trans s9
  clear s8
  refine q_pcat (ws := hmore2) rfl p2 rfl (by decide) fun a2 H10 s10 p2 => ?_
  have p1 := p1.same s10
  have s10 := s9.trans s10
  clear s9
  refine q_pset (zs := hlast0) rfl (by decide) fun a3 H11 s11 p3 => ?_
  have p1 : PrsAt H11 a1 Hsome := p1.same s11
  have p2 : PrsAt H11 a2 Hmore := p2.same s11
  have s11 := s10.trans s11
  clear s10
  have R11 := hR.same s11
  -- for form, call, rows in ..
  refine ⟨_, rfl, fit3 (by show 3 ≤ 10; decide), fun t1 ht1 => ⟨_, rfl, fit3 (by show 3 ≤ 10; decide), fun t2 ht2 => ⟨fit3 (by show 2 ≤ 10; decide), fun pl hpl => ?_⟩⟩⟩
  have b1 := same_up ht1 (.tup [.str "DESIGN", .ref X.read_design.f, .ref a1])
  have b2 := same_up ht2 (.tup [.str "EWHOLE", .ref X.read_expression.f, .ref a2])
  have b3 := same_up hpl (.lst [.ref t1, .ref t2])
  have e1 := b3 _ _ (b2 _ _ (upd_same (H := H11) (a := t1) (o := .tup [.str "DESIGN", .ref X.read_design.f, .ref a1])))
  have e2 := b3 _ _ (upd_same (H := upd H11 t1 (.tup [.str "DESIGN", .ref X.read_design.f, .ref a1])) (a := t2) (o := .tup [.str "EWHOLE", .ref X.read_expression.f, .ref a2]))
  have e3 : (upd (upd (upd H11 t1 (.tup [.str "DESIGN", .ref X.read_design.f, .ref a1])) t2 (.tup [.str "EWHOLE", .ref X.read_expression.f, .ref a2])) pl (.lst [.ref t1, .ref t2])) pl = some (.lst [.ref t1, .ref t2]) := upd_same
  have b4 := b1.trans (b2.trans b3)
  clear b1 b2 b3 ht1 ht2 hpl
  generalize upd (upd (upd H11 t1 (.tup [.str "DESIGN", .ref X.read_design.f, .ref a1])) t2 (.tup [.str "EWHOLE", .ref X.read_expression.f, .ref a2])) pl (.lst [.ref t1, .ref t2]) = H12 at b4 e1 e2 e3 ⊢
  have p1 := p1.same b4
  have p2 := p2.same b4
  have p3 := p3.same b4
  have R12 := R11.same b4
  have s12 := s11.trans b4
  refine ⟨pl, rfl, ⟨_, SqL.of e3⟩, for_list (xs := [.ref t1, .ref t2]) (fun _ σ H' => ∃ (o4 o5 o6 o7 o8 o9 : Option V), σ = [some (.ref d), some (.ref a1), some (.ref a2), some (.ref a3), o4, o5, o6, o7, o8, o9, none] ∧ Same H12 H') ⟨_, _, _, _, _, _, rfl, Same.refl _⟩ (fun i σ H' _ ⟨_, _, _, _, _, _, _, h⟩ => SqL.of (h _ _ e3))
    (fun i y σ H' hy ⟨o4, o5, o6, o7, o8, o9, e, sm⟩ => ?_) (fun σ H' ⟨o4, o5, o6, o7, o8, o9, e, sm⟩ => ?_)⟩
  · subst e
    have key : ∃ (f : F3) (a : Addr) (zs : List (Str × Nat)) (t : Addr), y = .ref t ∧ H12 t = some (.tup [.str (fName f), .ref (fAddr X f), .ref a]) ∧ PrsAt H12 a zs ∧ (zs.all fun z => chk (fName f) (dueOf z.1 z.2) z.1.cps.toList) = true ∧ chk (fName f) (some 0) (List.replicate 17 97) = true ∧ chk (fName f) (some 0) (List.replicate 5000 49 ++ [120]) = true ∧ zs.length ≤ 100 := by
      have l1 := List.all_eq_true.mp long1
      have d1 := l1 "DESIGN" List.mem_cons_self
      have d2 := l1 "EWHOLE" (List.mem_cons_of_mem _ List.mem_cons_self)
      rw [Bool.and_eq_true] at d1 d2
      rcases List.mem_cons.mp (List.mem_of_getElem? hy) with rfl | m
      · exact ⟨.d, a1, Hsome, t1, rfl, e1, p1, some_ok, d1.1, d1.2, by decide⟩
      · rw [List.mem_singleton] at m
        subst m
        exact ⟨.e, a2, Hmore, t2, rfl, e2, p2, more_ok, d2.1, d2.2, by decide⟩
    clear hy
    obtain ⟨f, a, zs, t, rfl, et, pz, hc, c17, c5000, zl⟩ := key
    refine ⟨t, _, rfl, SqT.of (sm _ _ et), rfl, _, _, rfl, _, _, rfl, _, _, rfl, rfl, ?_⟩
    obtain ⟨vs, ea, pv⟩ := pz.same sm
    have lv := pv.length
    refine ⟨_, rfl, 97, 17, (by decide +kernel), rfl, by decide, by decide, fit3 (by show 2 ≤ 10; decide), fun t3 ht3 => ⟨49, 5000, (by decide +kernel), rfl, by decide, by decide, _, _, rfl, rfl, (by rw [S_len, List.length_replicate]; decide), fit3 (by show 2 ≤ 10; decide), fun t4 ht4 => ⟨fit3 (by show 2 ≤ 10; decide), fun b hb => ?_⟩⟩⟩
    rw [s_x, S_app] at hb ⊢
    have g1 := same_up ht3 (.tup [.str (S (List.replicate 17 97)), .int 0])
    have g2 := same_up ht4 (.tup [.str (S (List.replicate 5000 49 ++ [120])), .int 0])
    have g3 := same_up hb (.lst [.ref t3, .ref t4])
    have f3 := g3 _ _ (g2 _ _ (upd_same (H := H') (a := t3) (o := .tup [.str (S (List.replicate 17 97)), .int 0])))
    have f4 := g3 _ _ (upd_same (H := upd H' t3 (.tup [.str (S (List.replicate 17 97)), .int 0])) (a := t4) (o := .tup [.str (S (List.replicate 5000 49 ++ [120])), .int 0]))
    have g4 := g1.trans (g2.trans g3)
    refine ⟨a, b, vs, _, rfl, rfl, g4 _ _ ea, upd_same, by rw [lv]; exact fit3' (show zs.length + 2 ≤ 1000 by omega), fun c hc' => ?_⟩
    have g5 := same_up hc' (.lst (vs ++ [.ref t3, .ref t4]))
    have f5 := g5 _ _ f3
    have f6 := g5 _ _ f4
    have kn : ∀ y ∈ vs ++ [V.ref t3, V.ref t4], Kn f (upd (upd (upd (upd H' t3 (.tup [.str (S (List.replicate 17 97)), .int 0])) t4 (.tup [.str (S (List.replicate 5000 49 ++ [120])), .int 0])) b (.lst [.ref t3, .ref t4])) c (.lst (vs ++ [.ref t3, .ref t4]))) y := fun y hy => by
      rcases List.mem_append.mp hy with m | m
      · exact ((kn_of hc pv y m).same g4).same g5
      · rcases List.mem_cons.mp m with m | m
        · exact ⟨t3, _, 0, m, f5, by rw [due0 (by decide)]; exact ask_of c17, chk_len c17⟩
        · exact ⟨t4, _, 0, List.mem_singleton.mp m, f6, by rw [due0 (fun z => by cases z)]; exact ask_of c5000, chk_len c5000⟩
    have ec : (upd (upd (upd (upd H' t3 (.tup [.str (S (List.replicate 17 97)), .int 0])) t4 (.tup [.str (S (List.replicate 5000 49 ++ [120])), .int 0])) b (.lst [.ref t3, .ref t4])) c (.lst (vs ++ [.ref t3, .ref t4]))) c = some (.lst (vs ++ [.ref t3, .ref t4])) := upd_same
    have g6 := g4.trans g5
    clear g1 g2 g3 g4 g5 f3 f4 f5 f6
    generalize upd (upd (upd (upd H' t3 (.tup [.str (S (List.replicate 17 97)), .int 0])) t4 (.tup [.str (S (List.replicate 5000 49 ++ [120])), .int 0])) b (.lst [.ref t3, .ref t4])) c (.lst (vs ++ [.ref t3, .ref t4])) = HY at kn ec g6 ⊢
    have sY := sm.trans g6
    refine ⟨c, rfl, ⟨_, SqL.of ec⟩, for_list (xs := vs ++ [.ref t3, .ref t4]) (fun _ σ H'' => ∃ (o7 o8 o9 : Option V), σ = [some (.ref d), some (.ref a1), some (.ref a2), some (.ref a3), some (.str (fName f)), some (.ref (fAddr X f)), some (.ref a), o7, o8, o9, none] ∧ Same HY H'') ⟨_, _, _, rfl, Same.refl _⟩ (fun i σ H'' _ ⟨_, _, _, _, h⟩ => SqL.of (h _ _ ec))
      (fun i y σ H'' hy ⟨o7, o8, o9, e, sm2⟩ => ?_) (fun σ H'' ⟨o7, o8, o9, e, sm2⟩ => ?_)⟩
    · subst e
      obtain ⟨tt, u, p, rfl, ett, ask, ul⟩ := (kn y (List.mem_of_getElem? hy)).same sm2
      refine ⟨tt, _, rfl, SqT.of ett, rfl, _, _, rfl, _, _, rfl, rfl, ?_⟩
      refine due_te rfl rfl (by rw [S_len]; exact Nat.le_trans ul (by decide)) fun ad had => ?_
      have h1 := same_up had (.lst (wrV (dueOf (S u) p)))
      have ed : (upd H'' ad (.lst (wrV (dueOf (S u) p)))) ad = some (.lst (wrV (dueOf (S u) p))) := upd_same
      refine ⟨_, rfl, _, rfl, rd_place ask rfl fun q1 H2 w1 _ eq1 => ⟨_, rfl, ne_wr eq1 (w1 _ _ ed) ⟨_, rfl, iteF ?_⟩⟩⟩
      obtain ⟨nn, hnn⟩ := ask.rn
      refine ⟨_, rfl, _, rfl, _, rfl, G, d, u, fName f, dueOf (S u) p, rfl, ask.len, (R12.same sY).same (sm2.trans (h1.trans w1)), fn_any_ne f, ⟨nn, false, hnn⟩, fun q2 H3 w2 _ eq2 => ⟨_, rfl, ne_wr eq2 (w2 _ _ (w1 _ _ ed)) ⟨_, rfl, iteF ?_⟩⟩⟩
      exact ⟨_, _, _, rfl, sm2.trans (h1.trans (w1.trans w2))⟩
    · subst e
      exact ⟨_, _, _, _, _, _, rfl, sY.trans sm2⟩
  · subst e
    obtain ⟨vs, ea, pv⟩ := p3.same sm
    have lv := pv.length
    have lh : hlast0.length ≤ 100 := by decide
    refine ⟨_, rfl, 55, 5000, (by decide +kernel), rfl, by decide, by decide, _, _, rfl, rfl, (by rw [S_len, List.length_replicate]; decide), fit3 (by show 2 ≤ 10; decide), fun t3 ht3 => ⟨fit3 (by show 2 ≤ 10; decide), fun t4 ht4 => ⟨fit3 (by show 2 ≤ 10; decide), fun t5 ht5 => ⟨fit3 (by show 3 ≤ 10; decide), fun b hb => ?_⟩⟩⟩⟩
    rw [s_1, S_app] at ht4 ht5 hb ⊢
    have g1 := same_up ht3 (.tup [.str (S ([49, 32] ++ List.replicate 5000 55)), .int 2])
    have g2 := same_up ht4 (.tup [.str "$", .int 0])
    have g2' := same_up ht5 (.tup [.str "1$", .int 1])
    have g3 := same_up hb (.lst [.ref t3, .ref t4, .ref t5])
    have f3 := g3 _ _ (g2' _ _ (g2 _ _ (upd_same (H := H') (a := t3) (o := .tup [.str (S ([49, 32] ++ List.replicate 5000 55)), .int 2]))))
    have f4 := g3 _ _ (g2' _ _ upd_same)
    have f5 := g3 _ _ upd_same
    have g4 := g1.trans (g2.trans (g2'.trans g3))
    refine ⟨a3, b, vs, _, rfl, rfl, g4 _ _ ea, upd_same, by rw [lv]; exact fit3' (show hlast0.length + 3 ≤ 1000 by omega), fun c hc' => ?_⟩
    have g5 := same_up hc' (.lst (vs ++ [.ref t3, .ref t4, .ref t5]))
    have f3 := g5 _ _ f3
    have f4 := g5 _ _ f4
    have f5 := g5 _ _ f5
    have l2 := long2
    rw [Bool.and_eq_true, Bool.and_eq_true] at l2
    have g6 := g4.trans g5
    have kn : ∀ y ∈ vs ++ [V.ref t3, V.ref t4, V.ref t5], KnN (upd (upd (upd (upd (upd H' t3 (.tup [.str (S ([49, 32] ++ List.replicate 5000 55)), .int 2])) t4 (.tup [.str "$", .int 0])) t5 (.tup [.str "1$", .int 1])) b (.lst [.ref t3, .ref t4, .ref t5])) c (.lst (vs ++ [.ref t3, .ref t4, .ref t5]))) y := fun y hy => by
      rcases List.mem_append.mp hy with m | m
      · obtain ⟨z, hz, t, e1, e2⟩ := paired_mem pv m
        have cz := List.all_eq_true.mp last_ok z hz
        exact ⟨t, z.1.cps.toList, z.2, e1, by rw [S_of]; exact g6 _ _ e2, ask_of cz⟩
      · simp only [List.mem_cons, List.not_mem_nil, or_false] at m
        rcases m with m | m | m
        · exact ⟨t3, _, 2, m, f3, ask_of l2.1.1⟩
        · exact ⟨t4, [36], 0, m, by rw [show S [36] = ("$" : Str) by decide +kernel]; exact f4, ask_of l2.1.2⟩
        · exact ⟨t5, [49, 36], 1, m, by rw [show S [49, 36] = ("1$" : Str) by decide +kernel]; exact f5, ask_of l2.2⟩
    have ec : (upd (upd (upd (upd (upd H' t3 (.tup [.str (S ([49, 32] ++ List.replicate 5000 55)), .int 2])) t4 (.tup [.str "$", .int 0])) t5 (.tup [.str "1$", .int 1])) b (.lst [.ref t3, .ref t4, .ref t5])) c (.lst (vs ++ [.ref t3, .ref t4, .ref t5]))) c = some (.lst (vs ++ [.ref t3, .ref t4, .ref t5])) := upd_same
    clear g1 g2 g2' g3 g4 g5 f3 f4 f5
    generalize upd (upd (upd (upd (upd H' t3 (.tup [.str (S ([49, 32] ++ List.replicate 5000 55)), .int 2])) t4 (.tup [.str "$", .int 0])) t5 (.tup [.str "1$", .int 1])) b (.lst [.ref t3, .ref t4, .ref t5])) c (.lst (vs ++ [.ref t3, .ref t4, .ref t5])) = HY at kn ec g6 ⊢
    have sY := sm.trans g6
    refine ⟨c, rfl, ⟨_, SqL.of ec⟩, for_list (xs := vs ++ [.ref t3, .ref t4, .ref t5]) (fun _ σ H'' => ∃ (o7 o8 : Option V), σ = [some (.ref d), some (.ref a1), some (.ref a2), some (.ref a3), o4, o5, o6, o7, o8, o9, none] ∧ Same HY H'') ⟨_, _, rfl, Same.refl _⟩ (fun i σ H'' _ ⟨_, _, _, h⟩ => SqL.of (h _ _ ec))
      (fun i y σ H'' hy ⟨o7, o8, e, sm2⟩ => ?_) (fun σ H'' ⟨o7, o8, e, sm2⟩ => ?_)⟩
    · subst e
      obtain ⟨tt, u, p, rfl, ett, ask⟩ := kn y (List.mem_of_getElem? hy)
      have ett := sm2 _ _ ett
      obtain ⟨nn, hnn⟩ := ask.rn
      refine ⟨tt, _, rfl, SqT.of ett, rfl, _, _, rfl, _, _, rfl, rfl, ?_⟩
      refine ⟨_, rfl, .n, u, some p, rfl, ask.len, ask.rn, ask.ne, fun q1 H2 w1 _ eq1 => ⟨_, rfl, fit3 (by show 1 ≤ 10; decide), fun ad had => ?_⟩⟩
      have h1 := same_up had (.lst (wrV (some p)))
      have ed : (upd H2 ad (.lst (wrV (some p)))) ad = some (.lst (wrV (some p))) := upd_same
      refine ne_wr (r := some p) (h1 _ _ eq1) ed ⟨_, rfl, iteF ?_⟩
      refine ⟨_, rfl, _, rfl, G, d, u, "NUMWHOLE", some p, rfl, ask.len, (R12.same sY).same (sm2.trans (w1.trans h1)), fn_any_ne .n, ⟨nn, false, hnn⟩, fun q2 H3 w2 _ eq2 => ⟨_, rfl, fit3 (by show 1 ≤ 10; decide), fun ad2 had2 => ?_⟩⟩
      have h2 := same_up had2 (.lst (wrV (some p)))
      have ed2 : (upd H3 ad2 (.lst (wrV (some p)))) ad2 = some (.lst (wrV (some p))) := upd_same
      refine ne_wr (r := some p) (h2 _ _ eq2) ed2 ⟨_, rfl, iteF ?_⟩
      exact ⟨_, _, rfl, sm2.trans (w1.trans (h1.trans (w2.trans h2)))⟩
    · subst e
      have dp := deep1
      rw [Bool.and_eq_true] at dp
      have ask1 : Ask (List.replicate 30 40 ++ [97] ++ List.replicate 30 41) "EWHOLE" none := ask_of dp.1
      have ask2 : Ask (List.replicate 30 40 ++ [97] ++ List.replicate 29 41) "EWHOLE" (some 60) := ask_of dp.2
      -- deep = ..
      refine ⟨40, 30, (by decide +kernel), rfl, by decide, by decide, _, _, rfl, rfl, (by rw [S_len, List.length_replicate]; decide), 41, 30, (by decide +kernel), rfl, by decide, by decide, _, _, rfl, rfl, (by rw [s_a, S_app, S_len, S_len]; decide), ?_⟩
      rw [s_a, S_app, S_app]
      refine ⟨_, rfl, .e, _, none, rfl, ask1.len, ask1.rn, ask1.ne, fun q1 H2 w1 _ eq1 => ⟨fit3 (Nat.zero_le _), fun ad had => ?_⟩⟩
      have h1 := same_up had (.lst (wrV none))
      refine eq_wr (r := none) (h1 _ _ eq1) upd_same ⟨_, rfl, iteT ?_⟩
      refine ⟨_, rfl, 1, rfl, _, rfl, _, rfl, (by rw [S_len]; decide), .e, _, some 60, ?_, ask2.len, ask2.rn, ask2.ne, fun q2 H3 w2 _ eq2 => ⟨fit3 (by show 1 ≤ 10; decide), fun ad2 had2 => ?_⟩⟩
      · have ec2 : cutS (S (List.replicate 30 40 ++ [97] ++ List.replicate 30 41)) none (some (-1)) = S (List.replicate 30 40 ++ [97] ++ List.replicate 29 41) := by decide +kernel
        rw [ec2]
        rfl
      · have h2 := same_up had2 (.lst (wrV (some 60)))
        exact eq_wr (r := some 60) (h2 _ _ eq2) upd_same (k _ (s12.trans (sY.trans (sm2.trans (w1.trans (h1.trans (w2.trans h2)))))))
end
end K04
end

section
set_option Elab.async false
set_option maxRecDepth 100000
set_option maxHeartbeats 4000000
set_option pp.maxSteps 2000
/-! K30: a def that is called where no repr is under way; repr of data. -/
namespace K04
open PySem L2 PyProof.Rows
/-- as FnOk, where no repr is under way -/
structure FnG (P : Program) (w : World) (K : PySem.W.Frag) (mg : Str → Option Value) (base : Heap) (k : Nat) (f : Addr) (fd : FuncData) (ps : List Str) (sp : Sp) : Prop where
  run : ∀ (A : Around) (outer : List Env) (s : Shared) (H : Hp) (args : Args) (us : List Value) (vs : List V) (Q : VK) (E : XK), Room k A → A.guards = some [] → Env0 P w K mg base A outer s H →
    BindsTo s fd args (ps.zip us) → Vals vs us → sp vs H Q E → codeAny (model P w) A (.call (.ref f) args) (CR CX0 outer P w H s Q E) s
section
variable {P : Program} {w : World} {K : PySem.W.Frag} {mg : Str → Option Value} {base : Heap}
theorem fn_g {x qual : Str} {st : Stmt} {f : Addr} {fd : FuncData} {N ps : List Str} {k : Nat} {sp : Sp} (F : Fun K x qual st f fd) (S : FnScope N ps (defScope st)) (len : ∀ vs H Q E, sp vs H Q E → vs.length = ps.length)
    (body : ∀ (cdv : Value) (A : Around) (outer : List Env) (s : Shared) (H : Hp) (vs : List V) (Q : VK) (E : XK), Room k (A.deeper (envOfC qual (defScope st) s.heap.objs.size f cdv)) → A.guards = some [] → sp vs H Q E →
      ∃ t, PSs (cxOf CX0 P w K mg base N qual (defScope st) f cdv A outer s H E).nox (defBody st) t ∧ t { nx := fun _ H' => Q .non H', rt := Q } (L2.start N vs) H) : FnG P w K mg base (k + 1) f fd ps sp := by
  obtain ⟨oc, od, kV, doc, pm, an, cdv, ct, osl, rfl, lk, hcd⟩ := F.ex
  refine ⟨fun A outer s H args us vs Q E room gd env0 bind rel wish => ?_⟩
  have kin : K.In s.heap := env0.mod.kin.keeps fun b o e => (env0.bs b o e).1
  have nolim : s.heap.NoLimit := env0.mod.nolimit.keeps fun b o e => (env0.bs b o e).1
  have kinds : ∀ y ∈ ps.zip us, (defScope st).names.lookup y.1 = some .local ∨ ((defScope st).names.lookup y.1 = some .cell ∧ ((cellsFrom (s.heap.objs.size + 1) (defScope st).names []).lookup y.1).isSome = true) := by
    rintro ⟨n, v⟩ hy
    exact (S.par n (List.of_mem_zip hy).1).imp id fun q => ⟨q, PySem.W.cellsFrom_some _ _ _ (.inl q)⟩
  refine codeAny_call_function room.depth (kin _ _ lk) rfl S.co S.gen rfl (PySem.W.codeRec_of kin hcd) (bind _ _ _ _ (wpAny_newFunctionEnv_cells S.kind kinds fun env he s1 fresh => ?_))
  subst he
  refine ⟨nolim.keeps fresh.toInCall.keep, codeAny_func ?_⟩
  obtain ⟨t, ht, hq⟩ := body cdv A outer s H vs Q E (room.deeper _) gd wish
  refine wpAny_mono (ht.nox.run [] s1 (L2.start N vs) H _ (inv_start S room.hd env0 (len _ _ _ _ wish) rel fresh) hq) (fun fl s' done => ?_) fun _ _ bad => bad
  cases fl with
  | ret u =>
    obtain ⟨v, _, H', J, rv, q⟩ := done
    exact ⟨v, H', J.os, J.bare, J.base, J.hok, rv, q⟩
  | next =>
    obtain ⟨_, H', J, q⟩ := done
    exact ⟨.non, H', J.os, J.bare, J.base, J.hok, rfl, q⟩
  | brk => exact done.elim fun _ h => h.elim fun _ h => h.2.elim
  | cont => exact done.elim fun _ h => h.elim fun _ h => h.2.elim
end
section
variable {X : Cx}
/-- repr of data -/
theorem call_repr (hg : X.A.guards = some []) (hu : X.A.units + 64 < cLine) : CallR X (.builtin "repr") (fun xs H Q => ∃ a d, xs = [.ref a] ∧ Dp X.K H (.ref a) d ∧ d.showable = true ∧ d.hasDict = false ∧ d.depth ≤ 10 ∧ d.shown.length ≤ sizeLine ∧ Q (.str d.shown) H) := by
  intro pins s σ H xs us Q I r h
  obtain ⟨a, d, rfl, dp, h1, h2, h3, h4, q⟩ := h
  obtain ⟨u, rfl, ru⟩ := r.one
  cases (show u = Value.ref a from ru)
  obtain ⟨as, rd⟩ := Dp.reads I d (.ref a) (.ref a) dp rfl
  exact repr_of_reads' rd h1 (fun e => by rw [h2] at e; cases e) hg (by omega) (fun _ _ e => e) (fun h' u tk hk => ⟨.str d.shown, H, I.kept (t' := tk) hk, ⟨_, rfl⟩, q⟩) h4
end
end K04
end

section
set_option Elab.async false
set_option maxRecDepth 100000
set_option maxHeartbeats 4000000
set_option pp.maxSteps 2000
/-! K31: the law. -/
namespace K04
open PySem L2 PyProof.Rows
theorem out_pl {u : List Nat} : ∀ (n : Nat) (st : List Str) (l : Lx) (p : Nat) (b : Bool), LxOk u l → out u n st l = some (some p, b) → p ≤ u.length
  | 0, _, _, _, _, _, e => by cases e
  | n + 1, st, l, p, b, ok, e => by
    unfold out at e
    cases q : step u st l with
    | fin => rw [q] at e; cases e
    | fail p' =>
      rw [q] at e
      have ep : p' = p := Option.some.inj (congrArg Prod.fst (Option.some.inj e))
      subst ep
      cases st with
      | nil => cases q
      | cons s st =>
        have q : step1 u s st l = .fail p' := q
        unfold step1 at q
        have fl : p' = l.pl := by
          split at q
          · cases q
          · split at q
            · cases q
            · split at q
              · cases q
              · injection q with q
                exact q.symm
        have := ok.le
        omega
    | go st' l' =>
      rw [q] at e
      dsimp only at e
      cases q2 : out u n st' l' with
      | none => rw [q2] at e; cases e
      | some z =>
        rw [q2] at e
        obtain ⟨z1, z2⟩ := z
        have e1 : z1 = some p := congrArg Prod.fst (Option.some.inj e)
        subst e1
        exact out_pl n st' l' p z2 (step_less ok q).1 q2
theorem ask_pl {u : List Nat} {form : Str} {r : Option Nat} (a : Ask u form r) : ∀ p, r = some p → p ≤ 1000000 := fun p e => by
  subst e
  obtain ⟨n, h⟩ := a.rn
  exact Nat.le_trans (out_pl n _ _ p false (lexAt_ok u 0) h) a.len
/-- a pair of answers, shown -/
def wrD (r : Option Nat) : PyData := .list (match r with | none => [] | some p => [.int (p : Nat)])
def twoD (r : Option Nat) : PyData := .list [wrD r, wrD r]
theorem wrD_at {K : PySem.W.Frag} {H : Hp} {a : Addr} {r : Option Nat} (h : H a = some (.lst (wrV r))) : Dp K H (.ref a) (wrD r) := by
  cases r with
  | none => exact .lst (SqL.of h) .nil
  | some p => exact .lst (SqL.of h) (.cons (.int _) .nil)
theorem two_ok {r : Option Nat} (h : ∀ p, r = some p → p ≤ 1000000) : (twoD r).showable = true ∧ (twoD r).hasDict = false ∧ (twoD r).depth ≤ 10 ∧ (twoD r).shown.length ≤ sizeLine := by
  cases r with
  | none => exact ⟨by decide +kernel, by decide +kernel, by decide +kernel, by decide +kernel⟩
  | some p =>
    have hp := h p rfl
    have lg : ((p : Nat) : Int).natAbs.log2 < 1920 := by
      rw [Int.natAbs_natCast]
      rcases Nat.eq_zero_or_pos p with h0 | h0
      · subst h0
        decide
      · exact (Nat.log2_lt (by omega)).mpr (Nat.lt_of_le_of_lt hp (Nat.lt_of_lt_of_le (show 1000000 < 2 ^ 20 by decide) (Nat.pow_le_pow_right (by decide) (by decide))))
    have sh : ((PyData.int (p : Nat)).shown).length ≤ 13 := toString_length_le (v := ((p : Nat) : Int)) (by omega) (by decide) (by omega)
    refine ⟨?_, rfl, by show 2 ≤ 10; decide, ?_⟩
    · show ((decide (((p : Nat) : Int).natAbs.log2 < 1920) && true) && ((decide (((p : Nat) : Int).natAbs.log2 < 1920) && true) && true)) = true
      rw [decide_eq_true lg]
      rfl
    · refine Nat.le_trans (shown_le13 (d := twoD (some p)) (by unfold PyData.layable0; simp [twoD, wrD, PyData.canLay0, PyData.canLayAll0, PyData.depth, PyData.depthAll, PyData.weight, PyData.weightAll]; have lg2 : p.log2 < 1920 := (by simpa using lg); split <;> omega) ?_) (by decide)
      show ((decide (((PyData.int (p : Nat)).shown).length ≤ 13) && true) && ((decide (((PyData.int (p : Nat)).shown).length ≤ 13) && true) && true)) = true
      rw [decide_eq_true sh]
      rfl
theorem cutS_take (t : List Nat) (c : Nat) : cutS (S t) none (some (c : Int)) = S (t.take c) := by
  have h := cutS_nat (t := t) (p := 0) (q := c)
  rw [List.drop_zero, Nat.sub_zero] at h
  rw [← h]
  unfold cutS
  rw [show HT.sIx (S t).length 0 none = HT.sIx (S t).length 0 (some ((0 : Nat) : Int)) from by rw [HT.sIx_nat]; simp [HT.sIx]]
section
variable {P : Program} {w : World} {K : PySem.W.Frag} {mg : Str → Option Value} {base : Heap} {C CB f1 cc cda : Addr}
theorem RulesAt.ks {G : Addr → Prop} {H H' : Hp} {s q d : Addr} (h : RulesAt G H d) (k : Ks s q H H') (g : ∀ b, G b → b ≠ s ∧ b ≠ q) (ds : d ≠ s) (dq : d ≠ q) : RulesAt G H' d := by
  obtain ⟨kvs, e, r⟩ := h
  exact ⟨kvs, k _ _ ds dq e, fun z => (r z).lk (k.lk g) fun _ h => h⟩
theorem sc_law : FnScope ["_law_script", "_law_source_here", "_law_rules", "_law_turn", "_law_form", "_law_call", "_law_signs", "_law_lap", "_law_text", "_law_cut", "_law_due"] ["_law_script"] (defScope (topS 68)) := ⟨rfl, rfl, rfl, by decide +kernel, rfl, by decide +kernel, by decide +kernel⟩
def spLaw (K : PySem.W.Frag) : Sp := fun vs H Q _ => ∃ (a : Addr) (ns : List Int), vs = [.ref a] ∧ SqL K H a (ns.map V.int) ∧ ns.length ≤ 1000 ∧ ∀ H', Q (.bl true) H'
theorem ok_law (A : LA P K mg C CB f1 cc cda) (T : RdTx w K mg) (X : TxTx K mg) (Z : LwTx K mg) (xc : XfC K CB) (mr : mg "repr" = none) {f : Addr} {fd : FuncData} (F : Fun K "law" "law" (topS 68) f fd) : FnG P w K mg base 185 f fd ["_law_script"] (spLaw K) := by
  have G_lw_source := ok_lw_source (w := w) (P := P) (base := base) Z
  have G_lw_pick := ok_lw_pick (w := w) (P := P) (base := base) Z
  have G_lw_forms := ok_lw_forms (w := w) (P := P) (base := base) Z
  have G_lw_drawn_signs := ok_lw_drawn_signs (w := w) (P := P) (base := base) Z
  have G_lw_spoilt_signs := ok_lw_spoilt_signs (w := w) (P := P) (base := base) Z
  have G_lw_spaced := ok_lw_spaced (w := w) (P := P) (base := base) Z
  have G_lw_wrong_place := ok_lw_wrong_place (w := w) (P := P) (base := base) Z
  have G_lw_place := ok_lw_place (base := base) A T X Z xc
  have G_lw_hand_right := ok_lw_hand_right (base := base) A T X Z xc
  refine fn_g F sc_law (fun vs H Q E h => ?_) (fun cdv _ outer s H vs Q E hr gd h => ?_)
  · obtain ⟨a, ns, rfl, _⟩ := h
    rfl
  obtain ⟨a, ns, rfl, hS, hl, k⟩ := h
  have nd := sc_law.nd
  refine ⟨_, (pss_cons (ps_set (i := 1) nd rfl (.inl rfl) (pe_call G_lw_source (hr.mono (by omega)) rfl Z.lw_source.g Z.lw_source.F.kp Z.lw_source.b .nil pass0 (pa_cons (pv 0) pa_nil)))
    (pss_cons (ps_set (i := 2) nd rfl (.inl rfl) (pe_call0 G_lw_forms (hr.mono (by omega)) rfl Z.lw_forms.g Z.lw_forms.F.kp Z.lw_forms.b .nil pass0))
    (pss_cons (ps_for PassesOwn.never rfl (pi_range1 (by rfl) Z.m_range (pa_cons pe_int pa_nil)) (pg_name (i := 3) nd rfl (.inl rfl)) (pss_cons (ps_set (i := 4) nd rfl (.inl rfl) (pe_ix ix_list (pe_lst (pa_cons pe_str (pa_cons pe_str (pa_cons pe_str (pa_cons pe_str pa_nil))))) (pe_op op_mod (pe_callTy call_int1 (by rfl) Z.m_int (by decide +kernel) (pa_cons (pv 3) pa_nil)) pe_int) (fun _ _ => rfl)))
    (pss_cons (ps_set (i := 5) nd rfl (.inl rfl) (pe_dget (hu_of hr) (pe_disp (pps_cons pe_str (pe_glob (v := .ref X.read_design.f) rfl X.read_design.g rfl) (pps_cons pe_str (pe_glob (v := .ref X.read_expression.f) rfl X.read_expression.g rfl) (pps_cons pe_str (pe_glob (v := .ref X.read_number.f) rfl X.read_number.g rfl) pps_nil))) (by rfl) (by rfl) (fun z => by cases z) (by decide)) (pv 4) (fun _ _ => rfl)))
    (pss_cons (ps_set (i := 6) nd rfl (.inl rfl) (pe_call G_lw_drawn_signs (hr.mono (by omega)) rfl Z.lw_drawn_signs.g Z.lw_drawn_signs.F.kp Z.lw_drawn_signs.b .nil pass0 (pa_cons (pv 1) (pa_cons (pv 2) (pa_cons (pv 4) pa_nil)))))
    (pss_cons (ps_for PassesOwn.never rfl (pi_range1 (by rfl) Z.m_range (pa_cons (pe_call G_lw_pick (hr.mono (by omega)) rfl Z.lw_pick.g Z.lw_pick.F.kp Z.lw_pick.b .nil pass0 (pa_cons (pv 1) (pa_cons pe_int pa_nil))) pa_nil)) (pg_name (i := 7) nd rfl (.inl rfl)) (pss_one (ps_set (i := 6) nd rfl (.inl rfl) (pe_ifExp (pt_cmpR (op_neNil hr.units0) (pv 6) (pe_lst pa_nil) (nomark _)) (pe_call G_lw_spoilt_signs (hr.mono (by omega)) rfl Z.lw_spoilt_signs.g Z.lw_spoilt_signs.F.kp Z.lw_spoilt_signs.b .nil pass0 (pa_cons (pv 1) (pa_cons (pv 6) pa_nil))) (pe_lst pa_nil)))))
    (pss_cons (ps_set (i := 8) nd rfl (.inl rfl) (pe_call G_lw_spaced (hr.mono (by omega)) rfl Z.lw_spaced.g Z.lw_spaced.F.kp Z.lw_spaced.b .nil pass0 (pa_cons (pv 1) (pa_cons (pv 6) pa_nil))))
    (pss_one (ps_for PassesOwn.never rfl (pi_list (pe_lst (pa_cons (pe_callB call_len_str (by rfl) Z.m_len PySem.boot_len (pa_cons (pv 8) pa_nil)) (pa_cons (pe_call G_lw_pick (hr.mono (by omega)) rfl Z.lw_pick.g Z.lw_pick.F.kp Z.lw_pick.b .nil pass0 (pa_cons (pv 1) (pa_cons (pe_op op_add (pe_callB call_len_str (by rfl) Z.m_len PySem.boot_len (pa_cons (pv 8) pa_nil)) pe_int) pa_nil))) pa_nil)))) (pg_name (i := 9) nd rfl (.inl rfl)) (pss_cons (ps_set (i := 10) nd rfl (.inl rfl) (pe_call G_lw_wrong_place (hr.mono (by omega)) rfl Z.lw_wrong_place.g Z.lw_wrong_place.F.kp Z.lw_wrong_place.b .nil pass0 (pa_cons (pv 2) (pa_cons (pe_slice sl_str (pv 8) po_none (po_some (pv 9))) (pa_cons (pv 4) pa_nil)))))
    (pss_one (ps_if (pt_cmpR op_ne (pe_callB (call_repr gd hr.units) (by rfl) mr (by decide +kernel) (pa_cons (pe_lst (pa_cons (pe_call G_lw_place (hr.mono (by omega)) rfl Z.lw_place.g Z.lw_place.F.kp Z.lw_place.b .nil pass0 (pa_cons (pv 5) (pa_cons (pe_slice sl_str (pv 8) po_none (po_some (pv 9))) pa_nil))) (pa_cons (pe_call G_lw_place (hr.mono (by omega)) rfl Z.lw_place.g Z.lw_place.F.kp Z.lw_place.b .nil pass0 (pa_cons (pv 5) (pa_cons (pe_slice sl_str (pv 8) po_none (po_some (pv 9))) pa_nil))) pa_nil))) pa_nil)) (pe_callB (call_repr gd hr.units) (by rfl) mr (by decide +kernel) (pa_cons (pe_lst (pa_cons (pv 10) (pa_cons (pv 10) pa_nil))) pa_nil)) (nomark _)) (pss_one (ps_ret pe_bl)) pss_nil)))))))))))
    (pss_one (ps_ret (pe_call G_lw_hand_right (hr.mono (by omega)) rfl Z.lw_hand_right.g Z.lw_hand_right.F.kp Z.lw_hand_right.b .nil pass0 (pa_cons (pv 2) pa_nil))))))), ?_⟩
  refine ⟨_, rfl, a, ns, rfl, hS, hl, fun s q H1 s1 fs fq src1 => ?_⟩
  refine ⟨rfl, fun d H2 s2 fd R2 => ?_⟩
  have hG : ∀ b, Nw H1 b → b ≠ s ∧ b ≠ q := fun b hb => src1.new hb
  have dsq := src1.new fd
  have src2 := src1.same s2
  refine ⟨7, rfl, by decide, by decide, for_range (n := 7) (fun i σ H' => ∃ (o3 o4 o5 o6 o7 o8 o9 o10 : Option V), σ = [some (.ref a), some (.ref s), some (.ref d), o3, o4, o5, o6, o7, o8, o9, o10] ∧ SrcAt H' s q ∧ RulesAt (Nw H1) H' d) ⟨_, _, _, _, _, _, _, _, rfl, src2, R2⟩
    (fun i σ H' hi ⟨o3, o4, o5, o6, o7, o8, o9, o10, e, src, R⟩ => ?_) (fun σ H' ⟨o3, o4, o5, o6, o7, o8, o9, o10, e, src, R⟩ => ?_)⟩
  · subst e
    -- form
    have key : ∃ f : F3, ([V.str "DESIGN", .str "EWHOLE", .str "DESIGN", .str "NUMWHOLE"] : List V)[i % 4]? = some (.str (fName f)) := by
      have h4 : i % 4 < 4 := Nat.mod_lt _ (by decide)
      rcases (show i % 4 = 0 ∨ i % 4 = 1 ∨ i % 4 = 2 ∨ i % 4 = 3 by omega) with h | h | h | h
      · exact ⟨.d, by rw [h]; rfl⟩
      · exact ⟨.e, by rw [h]; rfl⟩
      · exact ⟨.d, by rw [h]; rfl⟩
      · exact ⟨.n, by rw [h]; rfl⟩
    obtain ⟨f, hf⟩ := key
    refine ⟨fit3 (by show 4 ≤ 10; decide), fun pf hpf => ?_⟩
    have t1 := same_up hpf (.lst [.str "DESIGN", .str "EWHOLE", .str "DESIGN", .str "NUMWHOLE"])
    refine ⟨_, rfl, .inl ⟨_, rfl, _, _, rfl, rfl, (by show (0 : Int) < 4; decide), pf, _, _, .str (fName f), rfl, rfl, SqL.of upd_same, ?_, ?_⟩⟩
    · rw [show ((0 : Int) + (i : Nat)) % 4 = ((i % 4 : Nat) : Int) by omega]
      exact atI_nat hf
    have src := src.same t1
    have R := R.same t1
    generalize upd H' pf (.lst [.str "DESIGN", .str "EWHOLE", .str "DESIGN", .str "NUMWHOLE"]) = H3 at src R ⊢
    clear t1
    -- call
    intro pc hpc
    refine ⟨upd_same, [(.inr "DESIGN", .ref X.read_design.f), (.inr "EWHOLE", .ref X.read_expression.f), (.inr "NUMWHOLE", .ref X.read_number.f)], rfl, (by show 3 ≤ 15; decide), ?_⟩
    rw [upd_twice]
    have t2 := same_up hpc (.dK (mergeK [] [((.inr "DESIGN" : Key), V.ref X.read_design.f), (.inr "EWHOLE", .ref X.read_expression.f), (.inr "NUMWHOLE", .ref X.read_number.f)]))
    have dg := DGet.k (k := .inr (fName f)) (upd_same (H := H3) (a := pc) (o := .dK (mergeK [] [((.inr "DESIGN" : Key), V.ref X.read_design.f), (.inr "EWHOLE", .ref X.read_expression.f), (.inr "NUMWHOLE", .ref X.read_number.f)])))
    have dv : valV (mergeK [] [((.inr "DESIGN" : Key), V.ref X.read_design.f), (.inr "EWHOLE", .ref X.read_expression.f), (.inr "NUMWHOLE", .ref X.read_number.f)]) (.inr (fName f)) = some (.ref (fAddr X f)) := by cases f <;> rfl
    rw [dv] at dg
    refine ⟨_, rfl, pc, .ref (fAddr X f), rfl, dg, ?_⟩
    have src := src.same t2
    have R := R.same t2
    clear dg dv
    generalize upd H3 pc (.dK (mergeK [] [((.inr "DESIGN" : Key), V.ref X.read_design.f), (.inr "EWHOLE", .ref X.read_expression.f), (.inr "NUMWHOLE", .ref X.read_number.f)])) = H4 at src R ⊢
    clear t2 hpc
    -- signs
    refine ⟨_, rfl, _, rfl, _, rfl, Nw H1, s, q, d, fName f, rfl, src, R, hG, dsq.1, by cases f <;> decide +kernel, fun p ws H5 hp fp wok cnt fg ns ks5 src5 => ?_⟩
    have R5 := R.ks ks5 hG dsq.1 dsq.2
    have np := src.new fp
    clear src R
    -- laps
    refine ⟨_, rfl, s, q, 3, rfl, src5, by decide, by decide, fun j H6 h0 h1 ks6 src6 => ?_⟩
    rw [if_pos (by decide)] at h1
    obtain ⟨j, rfl⟩ := Int.eq_ofNat_of_zero_le h0
    have hj : j ≤ 2 := by omega
    have R6 := R5.ks ks6 hG dsq.1 dsq.2
    refine ⟨(j : Nat), rfl, by omega, by omega, for_range (n := j) (fun i σ H' => ∃ (p : Addr) (ws : List (List Nat)) (o7 : Option V) (o3' : V), σ = [some (.ref a), some (.ref s), some (.ref d), some o3', some (.str (fName f)), some (.ref (fAddr X f)), some (.ref p), o7, o8, o9, o10] ∧ H' p = some (.lst (wdV ws)) ∧ p ≠ s ∧ p ≠ q ∧ Wds ws (6430 + i) (558 + 20 * i) (27 + i) ∧ SrcAt H' s q ∧ RulesAt (Nw H1) H' d)
      ⟨p, ws, _, _, rfl, ks6 _ _ np.1 np.2 hp, np.1, np.2, ⟨wok, by omega, by omega, by omega⟩, src6, R6⟩ (fun i σ H' hi ⟨p, ws, o7, o3', e, hp, ps, pq, wd, src, R⟩ => ?_) (fun σ H' ⟨p, ws, o7, o3', e, hp, ps, pq, wd, src, R⟩ => ?_)⟩
    · subst e
      refine ⟨_, rfl, fit3 (Nat.zero_le _), fun e he => ⟨p, e, _, rfl, rfl, SqL.of (same_up he _ _ _ hp), SqL.of upd_same, _, rfl, ?_⟩⟩
      have t1 := same_up he (.lst [])
      cases ws with
      | nil =>
        refine iteF ⟨fit3 (Nat.zero_le _), fun p2 hp2 => ?_⟩
        have t2 := t1.trans (same_up hp2 (.lst []))
        have n2 := src.new (sm_none t1 hp2)
        exact ⟨p2, [], _, _, rfl, upd_same, n2.1, n2.2, ⟨fun v hv => absurd hv List.not_mem_nil, Nat.zero_le _, Nat.zero_le _, Nat.zero_le _⟩, src.same t2, R.same t2⟩
      | cons w0 ws =>
        refine iteT_of (b := !(wdV (w0 :: ws)).isEmpty) rfl ⟨_, rfl, _, rfl, s, q, p, w0 :: ws, 6430 + i, 558 + 20 * i, 27 + i, rfl, src.same t1, t1 _ _ hp, ps, pq, (fun z => nomatch z), wd, by omega, fun p' ws' H7 hp' fp' wd' ks7 src7 => ?_⟩
        have n2 := (src.same t1).new fp'
        exact ⟨p', ws', _, _, rfl, hp', n2.1, n2.2, ⟨wd'.ok, wd'.len, by have := wd'.fg; omega, wd'.ns⟩, src7, (R.same t1).ks ks7 hG dsq.1 dsq.2⟩
    · subst e
      have wl := wd.len
      refine ⟨_, rfl, _, rfl, s, q, p, ws, 6430 + j, 558 + 20 * j, 27 + j, rfl, src, hp, ps, pq, wd, by omega, fun t H8 tx ks8 src8 => ?_⟩
      have R8 := R.ks ks8 hG dsq.1 dsq.2
      have tl := tx.len
      have fits : (S t).length ≤ sizeLine := by
        rw [S_len]
        exact Nat.le_trans (show t.length ≤ 400000 by omega) (by decide)
      refine ⟨_, rfl, _, rfl, fits, _, rfl, _, rfl, _, rfl, fits, _, _, rfl, rfl, s, q, _, rfl, src8, by rw [S_len]; omega, by rw [S_len]; omega, fun j2 H9 h0 h1 ks9 src9 => ⟨fit3 (by show 2 ≤ 10; decide), fun pl hpl => ?_⟩⟩
      obtain ⟨c2, rfl⟩ := Int.eq_ofNat_of_zero_le h0
      have t1 := same_up hpl (.lst [.int ((S t).length : Nat), .int (c2 : Nat)])
      have R9 := (R8.ks ks9 hG dsq.1 dsq.2).same t1
      have src9 := src9.same t1
      have el : (upd H9 pl (.lst [.int ((S t).length : Nat), .int (c2 : Nat)])) pl = some (.lst [.int ((S t).length : Nat), .int (c2 : Nat)]) := upd_same
      generalize upd H9 pl (.lst [.int ((S t).length : Nat), .int (c2 : Nat)]) = H10 at R9 src9 el t1 ⊢
      refine ⟨pl, rfl, ⟨_, SqL.of el⟩, for_list (xs := [.int ((S t).length : Nat), .int (c2 : Nat)]) (fun _ σ H' => ∃ (o9 o10 : Option V), σ = [some (.ref a), some (.ref s), some (.ref d), some o3', some (.str (fName f)), some (.ref (fAddr X f)), some (.ref p), o7, some (.str (S t)), o9, o10] ∧ Same H10 H') ⟨_, _, rfl, Same.refl _⟩ (fun i σ H' _ ⟨_, _, _, h⟩ => SqL.of (h _ _ el))
        (fun i y σ H' hy ⟨o9, o10, e, sm⟩ => ?_) (fun σ H' ⟨o9, o10, e, sm⟩ => ?_)⟩
      · subst e
        have hc : ∃ c : Nat, y = .int (c : Nat) := by
          rcases List.mem_cons.mp (List.mem_of_getElem? hy) with h | h
          · exact ⟨_, h⟩
          · exact ⟨_, List.mem_singleton.mp h⟩
        obtain ⟨c, rfl⟩ := hc
        obtain ⟨r, ask⟩ := cut_ask tx (by omega) (by omega) (by omega) c (fName f)
        obtain ⟨nn, hnn⟩ := ask.rn
        obtain ⟨k1, k2, k3, k4⟩ := two_ok (ask_pl ask)
        refine ⟨_, rfl, _, rfl, _, rfl, _, rfl, _, rfl, fits, _, rfl, Nw H1, d, t.take c, fName f, r, by rw [cutS_take]; rfl, ask.len, R9.same sm, fn_any_ne f, ⟨nn, false, hnn⟩, fun q2 H11 w1 _ e1 => ?_⟩
        refine ⟨_, rfl, _, rfl, _, rfl, _, rfl, _, rfl, fits, f, t.take c, r, by rw [cutS_take]; rfl, ask.len, ask.rn, ask.ne, fun p1 H12 w2 _ e2 => ?_⟩
        refine ⟨_, rfl, _, rfl, _, rfl, _, rfl, _, rfl, fits, f, t.take c, r, by rw [cutS_take]; rfl, ask.len, ask.rn, ask.ne, fun p2 H13 w3 _ e3 => ⟨fit3 (by show 2 ≤ 10; decide), fun pL hpL => ?_⟩⟩
        have w4 := same_up hpL (.lst [.ref p1, .ref p2])
        refine ⟨pL, twoD r, rfl, .lst (SqL.of upd_same) (.cons (wrD_at (w4 _ _ (w3 _ _ e2))) (.cons (wrD_at (w4 _ _ e3)) .nil)), k1, k2, k3, k4, _, rfl, _, rfl, fit3 (by show 2 ≤ 10; decide), fun pM hpM => ?_⟩
        have w5 := same_up hpM (.lst [.ref q2, .ref q2])
        have e5 := w5 _ _ (w4 _ _ (w3 _ _ (w2 _ _ e1)))
        refine ⟨pM, twoD r, rfl, .lst (SqL.of upd_same) (.cons (wrD_at e5) (.cons (wrD_at e5) .nil)), k1, k2, k3, k4, rfl, _, rfl, ?_⟩
        refine iteF_of (by rw [decide_eq_true rfl]; rfl) ?_
        exact ⟨_, _, rfl, sm.trans (w1.trans (w2.trans (w3.trans (w4.trans w5))))⟩
      · subst e
        exact ⟨_, _, _, _, _, _, _, _, rfl, src9.same sm, R9.same sm⟩
  · subst e
    exact ⟨_, rfl, Nw H1, d, rfl, R, fun H' _ => k H'⟩
end
end K04
end

section
set_option Elab.async false
set_option maxRecDepth 100000
set_option maxHeartbeats 4000000
set_option pp.maxSteps 2000
/-! K32: the law's call at the ground. -/
namespace K04
open PySem L2 PyProof.Rows PySem.Spec
section
variable {P : Program} {w : World} {K : PySem.W.Frag} {mg mb : Str → Option Value} {k : Nat} {fa a : Addr} {fd : FuncData} {x : Str} {sp : Sp} {s1 : Shared} {vs : List Value} {ns : List Int}
/-- one heap of tracked things: none but the script -/
theorem call_one {H : Hp} (kin : K.In s1.heap) (glob : s1.heap.Ns mainGlobals mg) (bi : s1.heap.Ns builtinsNs mb) (bib : ∀ x : Str, x ≠ "__name__" → mb x = bootBuiltins x) (lim : s1.heap.NoLimit) (gen0 : s1.gens = #[])
    (at1 : s1.heap.get? a = some { cls := .type "list", data := .seq vs.toArray }) (room : Room k callerA) (F : ∀ base : Heap, K.In base → base.Ns mainGlobals mg → FnG P w K mg base k fa fd [x] sp) (bind : ∀ (s : Shared) (u : Value), BindsTo s fd ⟨[u], []⟩ [(x, u)])
    (wish : sp [.ref a] H (fun v _ => v = .bl true) fun _ _ _ => False) (only : Only H) (hok : HOk P w H s1.heap) (one : ∀ b, H b ≠ none → b = a) (noK : H a ≠ none → K.lookup a = none) :
    codeAny (model P w) callerA (.call (.ref fa) ⟨[.ref a], []⟩) (fun r s' => r = .ok (.ret (.bool true)) ∧ OldK s1.heap s'.heap ∧ s'.os = s1.os ∧ AllBare s'.gens) s1 := by
  have isA : ∀ {b : Addr} {u : HO}, H b = some u → b = a := fun q => one _ (by rw [q]; exact fun z => nomatch z)
  have free : ∀ {b : Addr} {o : Obj} {es : Array DictEntry} {m : Nat}, s1.heap.get? b = some o → o.data = .dict es m → H b = none := by
    intro b o es m e d
    cases q : H b with
    | none => rfl
    | some u =>
      rw [isA q, at1] at e
      cases e
      cases d
  have names : ∀ {b : Addr} {m : Str → Option Value}, s1.heap.Ns b m → (hidT s1.heap H).Ns b m := fun ⟨o, es, n, e, d, r⟩ => ⟨o, es, n, hidT_get e (free e d), d, r⟩
  have kin2 : K.In (hidT s1.heap H) := fun b o e => hidT_get (kin b o e) (by
    cases q : H b with
    | none => rfl
    | some u =>
      have eb := isA q
      subst eb
      rw [noK (by rw [q]; exact fun z => nomatch z)] at e
      cases e)
  have md : Mod K mg (hidT s1.heap H) := ⟨kin2, names glob, ⟨mb, names bi, bib⟩, let ⟨mc, q1, q2⟩ := lim; ⟨mc, names q1, q2⟩⟩
  have env : Env0 P w K mg (hidT s1.heap H) callerA [] s1 H := ⟨rfl, md, fun _ _ e => of_hidT e, Nat.le_of_eq (hidT_size _ _), trivial, fun b hb => absurd hb (List.not_mem_nil (a := b)), hok, .of_eq gen0⟩
  refine codeAny_mono ((F _ kin2 (names glob)).run callerA [] s1 H ⟨[.ref a], []⟩ [.ref a] [.ref a] _ _ room rfl env (bind s1 (.ref a)) (.cons rfl .nil) wish) fun r s' done => ?_
  cases r with
  | error _ => exact done.elim
  | ok fl =>
    cases fl with
    | next => exact done.elim
    | brk => exact done.elim
    | cont => exact done.elim
    | ret u =>
      obtain ⟨v, H', os, bare, un, hok', rel, rfl⟩ := done
      obtain rfl : u = Value.bool true := rel
      refine ⟨rfl, OldK.of_keep fun b o e => ?_, os, bare⟩
      rcases only b with z | ⟨ob, xs, z⟩
      · exact un.keep b o e z (by intro m; exact absurd (show b ∈ ([] : List Addr) from m) List.not_mem_nil) List.not_mem_nil
      · obtain ⟨g1, _⟩ := hok b _ z
        obtain ⟨g2, _⟩ := hok' b _ (un.frzs b ob _ z)
        rw [e] at g1
        cases g1
        exact g2
theorem call_law (kin : K.In s1.heap) (glob : s1.heap.Ns mainGlobals mg) (bi : s1.heap.Ns builtinsNs mb) (bib : ∀ x : Str, x ≠ "__name__" → mb x = bootBuiltins x) (lim : s1.heap.NoLimit) (gen0 : s1.gens = #[])
    (at1 : s1.heap.get? a = some { cls := .type "list", data := .seq vs.toArray }) (whole : IntsAre vs ns) (len : ns.length ≤ sizeLine) (room : Room k callerA) (F : ∀ base : Heap, K.In base → base.Ns mainGlobals mg → FnG P w K mg base k fa fd [x] sp) (bind : ∀ (s : Shared) (u : Value), BindsTo s fd ⟨[u], []⟩ [(x, u)])
    (wish : ∀ H : Hp, SqL K H a (ns.map V.int) → sp [.ref a] H (fun v _ => v = .bl true) fun _ _ _ => False) :
    codeAny (model P w) callerA (.call (.ref fa) ⟨[.ref a], []⟩) (fun r s' => r = .ok (.ret (.bool true)) ∧ OldK s1.heap s'.heap ∧ s'.os = s1.os ∧ AllBare s'.gens) s1 := by
  have rel : Vals (ns.map V.int) vs := vals_ints whole
  have ll : vs.length ≤ sizeLine := by rw [← whole.length] at len; exact len
  cases hk : K.lookup a with
  | some o =>
    have e := kin a o hk
    rw [at1] at e
    cases e
    have sq : SqL K (fun _ => none) a (ns.map V.int) := .inr ⟨_, vs.toArray, _, hk, rfl, rfl, rfl, by rw [List.size_toArray]; exact ll, by simpa using rel⟩
    exact call_one kin glob bi bib lim gen0 at1 room F bind (wish _ sq) (fun _ => .inl rfl) (fun _ _ z => nomatch (show (none : Option HO) = some _ from z)) (fun _ z => absurd rfl z) fun z => absurd rfl z
  | none =>
    let H : Hp := upd (fun _ => none) a (.frz { cls := .type "list", data := .seq vs.toArray } (.lst (ns.map V.int)))
    have ha : H a = some (.frz { cls := .type "list", data := .seq vs.toArray } (.lst (ns.map V.int))) := upd_same
    have hn : ∀ b, b ≠ a → H b = none := fun b hb => upd_ne hb
    refine call_one (H := H) kin glob bi bib lim gen0 at1 room F bind (wish _ (.inl (.inr ⟨_, ha⟩))) (fun b => ?_) (fun b u z => ?_) (fun b z => ?_) fun _ => hk
    · by_cases hb : b = a
      · subst hb
        exact .inr ⟨_, _, ha⟩
      · exact .inl (hn b hb)
    · by_cases hb : b = a
      · subst hb
        rw [ha] at z
        cases z
        exact ⟨at1, by rw [List.length_map]; exact len, vs, _, rel, at1⟩
      · rw [hn b hb] at z
        cases z
    · by_cases hb : b = a
      · exact hb
      · exact absurd (hn b hb) z
end
/-- from the def's promise to the goal that the head leaves -/
theorem walk_g {l : PySem.W.OpenLaw} {n k : Nat} {q : Program} {loose : List Str} {XP : (Str → Option Value) → Heap → Prop} {YP : World → Heap → Prop} {d : DefRec} {K : Params → PySem.W.Frag} {x : Str}
    (hn : l.most = some n) (n1 : n ≤ 1000) (nodef : d.params.defaults = []) (room : Room k callerA) (hY : ∀ (w : World) (h : Heap), YP w h → (K w.params).In h)
    (F : ∀ (w : World) (mg : Str → Option Value) (fa : Addr) (h : Heap), (K w.params).In h → h.Ns mainGlobals mg → mg d.name = some (.ref fa) →
      ∃ fd : FuncData, (∀ (s : Shared) (u : Value), BindsTo s fd ⟨[u], []⟩ [(x, u)]) ∧ ∀ base : Heap, FnG l.prog w (K w.params) mg base k fa fd [x] (spLaw (K w.params))) :
    PySem.W.WalkO q loose XP YP l.row.toRowW d [] (fun f vs => PySem.call f vs) := by
  refine Att.attach_call hn nodef fun w _ s1 mg mb fa o pm cd doc a vs ns gr y _ _ _ named obj whole many gens => ?_
  obtain ⟨fd, bind, f⟩ := F w mg fa _ (hY w _ y) gr.T.g named
  exact call_law (hY w _ y) gr.T.g gr.T.b gr.T.builtins gr.T.nolimit gens obj whole (Nat.le_trans many (fit3' n1)) room (fun base _ _ => f base) bind fun H sq => ⟨a, ns, rfl, sq, Nat.le_trans many n1, fun _ => rfl⟩
end K04
end

section
set_option Elab.async false
set_option maxRecDepth 100000
set_option maxHeartbeats 4000000
/-! K33: the facts of the program, and the row. -/
namespace K04
open PySem L2 PyProof.Rows PySem.W
def Bd (x q : Str) (st : Stmt) (ps : List Str) : Prop :=
  ∀ (kV dc pm : Value) (an : Option Addr) (cdv ct : Value) (us : List Value), us.length = ps.length →
    bindArgs (fnOf x q (defArgs st) (defBody st) (defScope st) .none kV dc pm an cdv ct) ⟨us, []⟩ = pure (ps.zip us)
theorem rv_int {i : Int} {t : PySem.Tok} : RelV (.int i) (.int i t) := ⟨t, rfl⟩
theorem rv_str {x : Str} {t : PySem.Tok} : RelV (.str x) (.str x t) := ⟨t, rfl⟩
section
variable {K : Frag} {h : Heap} {mg : Str → Option Value} {w : World} {f C T a : Addr} {x q m : Str} {st : Stmt} {ps : List Str} {oc kV dc pm cdv ct : Value} {od an : Option Addr} {osl : Array (Option Value)}
def df_mk (KX : K.In h) (G : h.Ns mainGlobals mg) (a1 : nsIn K mainGlobals x = some (some (.ref f)))
    (l : K.lookup f = some ⟨oc, od, .func (fnOf x x (defArgs st) (defBody st) (defScope st) .none kV dc pm an cdv ct), osl⟩)
    (c : codeIn K cdv x = true) (k : keepIn K (.ref f) = true) (b : Bd x x st ps) : Df K mg x st ps :=
  ⟨f, _, fun_mk l c k, .all (b kV dc pm an cdv ct), mg_of KX G a1⟩
def md_mk (at_ : findIn K (.ref C) m = some (some (.ref f))) (fn : isFn K (.ref f) = true)
    (l : K.lookup f = some ⟨oc, od, .func (fnOf m q (defArgs st) (defBody st) (defScope st) .none kV dc pm an cdv ct), osl⟩)
    (c : codeIn K cdv q = true) (k : keepIn K (.ref f) = true) (b : Bd m q st ps) : Md K C m q st ps :=
  ⟨f, _, fun_mk l c k, .all (b kV dc pm an cdv ct), ⟨at_, fn, k⟩⟩
structure Itm (K : Frag) (mg : Str → Option Value) where
  d : DfD K mg "items_here" (topS 44) ["lexer", "is_full"]
  i1 : Binds K d.fd ["lexer", "is_full"] [.bool false]
def dfD_mk {oT : Value} {dT : Option Addr} {nT : Nat} {sT : Array (Option Value)} (KX : K.In h) (G : h.Ns mainGlobals mg) (a1 : nsIn K mainGlobals "items_here" = some (some (.ref f)))
    (l : K.lookup f = some ⟨oc, od, .func (fnOf "items_here" "items_here" (defArgs (topS 44)) (defBody (topS 44)) (defScope (topS 44)) (.ref T) kV dc pm an cdv ct), osl⟩)
    (lT : K.lookup T = some ⟨oT, dT, .seq #[.bool false] nT, sT⟩)
    (c : codeIn K cdv "items_here" = true) (k : keepIn K (.ref f) = true) : Itm K mg :=
  ⟨⟨f, _, ⟨⟨oc, od, _, kV, dc, pm, an, cdv, ct, osl, rfl, l, c⟩, k⟩, fun _ us X hl => match us, hl with | [_, _], _ => .of_defaults rfl (X _ _ lT) rfl rfl rfl, mg_of KX G a1⟩,
    fun _ us X hl => match us, hl with
      | [_], _ => .of_defaults rfl (X _ _ lT) rfl rfl rfl
      | [], hl => by cases hl
      | _ :: _ :: _, hl => by simp at hl⟩
structure StT (mg : Str → Option Value) (x z : Str) where
  t : PySem.Tok
  g : mg x = some (.str z t)
def str_mk {z : Str} {t : PySem.Tok} (KX : K.In h) (G : h.Ns mainGlobals mg) (a1 : nsIn K mainGlobals x = some (some (.str z t))) : StT mg x z := ⟨t, mg_of KX G a1⟩
structure TuT (K : Frag) (mg : Str → Option Value) (x : Str) (xs : List V) where
  a : Addr
  g : mg x = some (.ref a)
  k : ∀ H, SqT K H a xs
def tup_mk {xs : List V} {its : Array Value} {n : Nat} {sl : Array (Option Value)} {d : Option Addr} (KX : K.In h) (G : h.Ns mainGlobals mg) (a1 : nsIn K mainGlobals x = some (some (.ref a)))
    (l : K.lookup a = some ⟨.type "tuple", d, .seq its n, sl⟩) (s : its.size ≤ sizeLine) (v : Vals xs its.toList) : TuT K mg x xs :=
  ⟨a, mg_of KX G a1, fun _ => .inr ⟨_, its, n, l, rfl, rfl, s, v⟩⟩
structure TaT (K : Frag) (w : World) (mg : Str → Option Value) (x : Str) (tab : List (Str × V)) where
  a : Addr
  g : mg x = some (.ref a)
  k : KTab K w a tab
def tab_mk {tab : List (Str × V)} {es : Array DictEntry} {n : Nat} (KX : K.In h) (G : h.Ns mainGlobals mg) (a1 : nsIn K mainGlobals x = some (some (.ref a)))
    (l : K.lookup a = some ⟨.type "dict", none, .dict es n, #[]⟩) (kl : KeysLit w.params es.toList)
    (v : Paired (fun (e : DictEntry) (p : Str × V) => (∃ t, e.key = .str p.1 t) ∧ RelV p.2 e.val) es.toList tab) (lo : (a == sysModules) = false) : TaT K w mg x tab :=
  ⟨a, mg_of KX G a1, ⟨⟨es, n, l, kl, v⟩, lo⟩⟩
structure ClA (K : Frag) (mg : Str → Option Value) where
  C : Addr
  c : ClTx K mg C
def cls_mk (KX : K.In h) (G : h.Ns mainGlobals mg) (a1 : nsIn K mainGlobals "Lexer" = some (some (.ref C))) (pg : plainGet K C Str.empty = true) (hd : hasDictIn K C = true) (po : plainOver K C = true)
    (sa : findIn K (.ref C) "__setattr__" = some (some (.builtin "object.__setattr__"))) (nT : findIn K (.ref C) "text" = some none) (nN : findIn K (.ref C) "now" = some none)
    (mk : makesIn K C = true) (kp : keepIn K (.ref C) = true)
    (m0 : Md K C "__init__" "Lexer.__init__" (sM 0) ["self", "text"]) (m1 : Md K C "what" "Lexer.what" (sM 1) ["self"]) (m2 : Md K C "is_next" "Lexer.is_next" (sM 2) ["self", "lexeme"])
    (m3 : Md K C "is_one_of" "Lexer.is_one_of" (sM 3) ["self", "some"]) (m4 : Md K C "go" "Lexer.go" (sM 4) ["self"]) (m5 : Md K C "need" "Lexer.need" (sM 5) ["self", "is_right"])
    (m6 : Md K C "take" "Lexer.take" (sM 6) ["self", "lexeme"]) (m7 : Md K C "has" "Lexer.has" (sM 7) ["self", "lexeme"]) (m8 : Md K C "name" "Lexer.name" (sM 8) ["self"])
    (m9 : Md K C "finish" "Lexer.finish" (sM 9) ["self"]) : ClA K mg :=
  ⟨C, { cl := ⟨pg, hd, po, sa⟩, nT := nT, nN := nN, mgC := mg_of KX G a1, mInit := m0, mkC := ⟨mk, m0.mt.at_, m0.mt.fn, kp⟩, mWhat := m1, mNext := m2, mOne := m3, mGo := m4, mNeed := m5, mTake := m6, mHas := m7, mName := m8, mFin := m9 }⟩
theorem te_of {S : Addr} (b : subIn K (.ref S) (.type "BaseException") = some true) (i : isClsIn K S = true) (y : typeIn K (.ref S) = some (.type "type")) (r : subIn K (.ref S) (.ref S) = some true) : exmOne K (.ref S) (.ref S) = some true := by
  have j : (clsIn K S).isSome = true := i
  have p : (subIn K (.ref S) (.type "BaseException") == some true) = true := by rw [b]; rfl
  have q : ((clsIn K S).isSome && typeIn K (.ref S) == some (.type "type")) = true := by rw [j, y]; rfl
  refine Eq.trans (if_pos p) ?_
  exact Eq.trans (if_pos q) r
structure BdA (P : Program) (K : Frag) (mg : Str → Option Value) where
  CB : Addr
  f1 : Addr
  cc : Addr
  cda : Addr
  B : BadTx P K mg CB f1 cc cda
  fdI : FuncData
  hfd : ∃ oc od osl, K.lookup f1 = some ⟨oc, od, .func fdI, osl⟩
  bI : Binds K fdI ["self", "place"] []
def bad_mk {P : Program} {CB f1 cc cda N : Addr} {nm cq : Str} {bs bm : List Value} {sn : List Str} {sub : List Value} {ab : Bool} {col : Option Bool} {dd : Option Addr} {k0 k1 k2 k3 k5 : Option Value}
    {vC vD : Value} {oC oD : Option Addr} {sC sD : Array (Option Value)} {vs} {file : Str} {tf : PySem.Tok} {cdt}
    (KX : K.In h) (G : h.Ns mainGlobals mg) (a1 : nsIn K mainGlobals "BadText" = some (some (.ref CB)))
    (lC : K.lookup CB = some (excClassObj nm cq CB N bs bm true sn sub ab col dd k0 k1 k2 k3 k5 "ValueError.__new__"))
    (hb : PySem.HandSPX.refsVE bm = true)
    (sa : findIn K (.ref CB) "__setattr__" = some (some (.builtin "object.__setattr__"))) (exC : subIn K (.ref CB) (.type "BaseException") = some true) (tyC : typeIn K (.ref CB) = some (.type "type")) (kC : keepIn K (.ref CB) = true)
    (te1 : isClsIn K CB = true) (te2 : subIn K (.ref CB) (.ref CB) = some true)
    (ga : findIn K (.ref CB) "__getattribute__" = some (some (.builtin "BaseException.__getattribute__"))) (gg : findIn K (.ref CB) "__getattr__" = some none) (hd : hasDictIn K CB = true)
    (np : findIn K (.ref CB) "place" = some none) (iC : findIn K (.ref CB) "__init__" = some (some (.ref f1))) (tI : typeIn K (.ref f1) = some (.type "function"))
    (fn : K.lookup f1 = some ⟨oc, od, .func (fnX "__init__" "BadText.__init__" (defArgs sBadInit) (defBody sBadInit) (defScope sBadInit) [("__class__", cc)] .none .none dc pm an (.ref cda) ct), osl⟩)
    (cd : codeIn K (.ref cda) "BadText.__init__" = true) (cell : K.lookup cc = some ⟨vC, oC, .cell (some (.ref CB)), sC⟩)
    (code : K.lookup cda = some ⟨vD, oD, .fields vs, sD⟩) (vs2 : vs[2]? = some (.str file tf)) (pf : ((P.main.file : Str) == file) = true)
    (su : nsIn K mainGlobals "super" = some none) (top : (P.main.scope.names.lookup ("super" : Str)).isSome = false) (sl : mroIn K CB (.ref CB) = some true)
    (sVE : subIn K (.ref CB) (.type "ValueError") = some true) (th : nsIn K cStatics "thirdparty.any" = some none)
    (al1 : clsIn K CB = some cdt) (al2 : alongIn K "__init__" ((cdt.mro.dropWhile (· != .ref CB)).drop 1) = some (some (.builtin "ValueError.__init__"))) : BdA P K mg :=
  { CB := CB, f1 := f1, cc := cc, cda := cda, fdI := _, hfd := ⟨_, _, _, fn⟩, bI := .all fun us hl => match us, hl with | [_, _], _ => rfl, B := { gC := mg_of KX G a1, oex := ⟨⟨_, _, _, _, _, _, _, _, _, _, _, _, _, _, _, lC, hb⟩, sa, exC, tyC, kC⟩, te := te_of exC te1 tyC te2, ga := ga, gg := gg, hd := hd, np := np, iC := iC, tI := tI, fn := ⟨_, _, _, _, _, _, _, fn⟩, cd := cd, cell := ⟨_, _, _, cell⟩, code := ⟨_, _, _, _, _, _, code, vs2, pf⟩, sup := mg_none_of KX G su, top := top, sl := sl, sVE := sVE, th := th, al := ⟨_, al1, al2⟩ } }
end
theorem bind1 {K : Frag} {mg : Str → Option Value} {st : Stmt} {x y : Str} (d : Df K mg x st [y]) (b : Bd x x st [y]) : ∀ (s : Shared) (u : Value), BindsTo s d.fd ⟨[u], []⟩ [(y, u)] := fun s u => by
  obtain ⟨oc, od, kV, dc, pm, an, cdv, ct, osl, e, l, c⟩ := d.F.ex
  rw [e]
  exact .of_eq (b kV dc pm an cdv ct [u] rfl)

theorem bd_is_spelt : Bd "is_spelt" "is_spelt" (topS 8) ["value"] := fun _ _ _ _ _ _ us hl => match us, hl with | [_], _ => rfl
theorem bd_run_end : Bd "run_end" "run_end" (topS 13) ["text", "place", "signs"] := fun _ _ _ _ _ _ us hl => match us, hl with | [_, _, _], _ => rfl
theorem bd_gap_end : Bd "gap_end" "gap_end" (topS 14) ["text", "place"] := fun _ _ _ _ _ _ us hl => match us, hl with | [_, _], _ => rfl
theorem bd_lexeme_at : Bd "lexeme_at" "lexeme_at" (topS 15) ["text", "place"] := fun _ _ _ _ _ _ us hl => match us, hl with | [_, _], _ => rfl
theorem bd_sign_level : Bd "sign_level" "sign_level" (topS 24) ["lexer", "is_number"] := fun _ _ _ _ _ _ us hl => match us, hl with | [_, _], _ => rfl
theorem bd_read_chain : Bd "read_chain" "read_chain" (topS 25) ["lexer", "is_number"] := fun _ _ _ _ _ _ us hl => match us, hl with | [_, _], _ => rfl
theorem bd_part_here : Bd "part_here" "part_here" (topS 26) ["lexer", "is_number"] := fun _ _ _ _ _ _ us hl => match us, hl with | [_, _], _ => rfl
theorem bd_read_number_part : Bd "read_number_part" "read_number_part" (topS 27) ["lexer"] := fun _ _ _ _ _ _ us hl => match us, hl with | [_], _ => rfl
theorem bd_number_here : Bd "number_here" "number_here" (topS 28) ["lexer"] := fun _ _ _ _ _ _ us hl => match us, hl with | [_], _ => rfl
theorem bd_numbers_here : Bd "numbers_here" "numbers_here" (topS 29) ["lexer"] := fun _ _ _ _ _ _ us hl => match us, hl with | [_], _ => rfl
theorem bd_place_here : Bd "place_here" "place_here" (topS 30) ["lexer"] := fun _ _ _ _ _ _ us hl => match us, hl with | [_], _ => rfl
theorem bd_read_atom : Bd "read_atom" "read_atom" (topS 31) ["lexer"] := fun _ _ _ _ _ _ us hl => match us, hl with | [_], _ => rfl
theorem bd_read_part_here : Bd "read_part_here" "read_part_here" (topS 32) ["lexer"] := fun _ _ _ _ _ _ us hl => match us, hl with | [_], _ => rfl
theorem bd_expression_here : Bd "expression_here" "expression_here" (topS 33) ["lexer"] := fun _ _ _ _ _ _ us hl => match us, hl with | [_], _ => rfl
theorem bd_sizes_here : Bd "sizes_here" "sizes_here" (topS 34) ["lexer"] := fun _ _ _ _ _ _ us hl => match us, hl with | [_], _ => rfl
theorem bd_end_here : Bd "end_here" "end_here" (topS 35) ["lexer", "item"] := fun _ _ _ _ _ _ us hl => match us, hl with | [_, _], _ => rfl
theorem bd_width_here : Bd "width_here" "width_here" (topS 36) ["lexer"] := fun _ _ _ _ _ _ us hl => match us, hl with | [_], _ => rfl
theorem bd_reg_here : Bd "reg_here" "reg_here" (topS 37) ["lexer"] := fun _ _ _ _ _ _ us hl => match us, hl with | [_], _ => rfl
theorem bd_mem_here : Bd "mem_here" "mem_here" (topS 38) ["lexer"] := fun _ _ _ _ _ _ us hl => match us, hl with | [_], _ => rfl
theorem bd_ports_here : Bd "ports_here" "ports_here" (topS 39) ["lexer"] := fun _ _ _ _ _ _ us hl => match us, hl with | [_], _ => rfl
theorem bd_named_here : Bd "named_here" "named_here" (topS 40) ["lexer"] := fun _ _ _ _ _ _ us hl => match us, hl with | [_], _ => rfl
theorem bd_each_here : Bd "each_here" "each_here" (topS 41) ["lexer"] := fun _ _ _ _ _ _ us hl => match us, hl with | [_], _ => rfl
theorem bd_when_here : Bd "when_here" "when_here" (topS 42) ["lexer"] := fun _ _ _ _ _ _ us hl => match us, hl with | [_], _ => rfl
theorem bd_item_here : Bd "item_here" "item_here" (topS 43) ["lexer"] := fun _ _ _ _ _ _ us hl => match us, hl with | [_], _ => rfl
theorem bd_module_here : Bd "module_here" "module_here" (topS 45) ["lexer"] := fun _ _ _ _ _ _ us hl => match us, hl with | [_], _ => rfl
theorem bd_design_here : Bd "design_here" "design_here" (topS 46) ["lexer"] := fun _ _ _ _ _ _ us hl => match us, hl with | [_], _ => rfl
theorem bd_read_design : Bd "read_design" "read_design" (topS 48) ["text"] := fun _ _ _ _ _ _ us hl => match us, hl with | [_], _ => rfl
theorem bd_read_expression : Bd "read_expression" "read_expression" (topS 49) ["text"] := fun _ _ _ _ _ _ us hl => match us, hl with | [_], _ => rfl
theorem bd_read_number : Bd "read_number" "read_number" (topS 50) ["text"] := fun _ _ _ _ _ _ us hl => match us, hl with | [_], _ => rfl
theorem bd_lw_source : Bd "_law_source" "_law_source" (topS 52) ["_law_script"] := fun _ _ _ _ _ _ us hl => match us, hl with | [_], _ => rfl
theorem bd_lw_pick : Bd "_law_pick" "_law_pick" (topS 53) ["_law_source_here", "_law_many"] := fun _ _ _ _ _ _ us hl => match us, hl with | [_, _], _ => rfl
theorem bd_lw_of : Bd "_law_of" "_law_of" (topS 54) ["_law_source_here", "_law_some"] := fun _ _ _ _ _ _ us hl => match us, hl with | [_, _], _ => rfl
theorem bd_lw_keywords : Bd "_law_keywords" "_law_keywords" (topS 55) [] := fun _ _ _ _ _ _ us hl => match us, hl with | [], _ => rfl
theorem bd_lw_is_name : Bd "_law_is_name" "_law_is_name" (topS 56) ["_law_value"] := fun _ _ _ _ _ _ us hl => match us, hl with | [_], _ => rfl
theorem bd_lw_any_name : Bd "_law_any_name" "_law_any_name" (topS 57) ["_law_source_here"] := fun _ _ _ _ _ _ us hl => match us, hl with | [_], _ => rfl
theorem bd_lw_run_end : Bd "_law_run_end" "_law_run_end" (topS 58) ["_law_text", "_law_place_here", "_law_signs"] := fun _ _ _ _ _ _ us hl => match us, hl with | [_, _, _], _ => rfl
theorem bd_lw_lexeme : Bd "_law_lexeme" "_law_lexeme" (topS 59) ["_law_text", "_law_place_here"] := fun _ _ _ _ _ _ us hl => match us, hl with | [_, _], _ => rfl
theorem bd_lw_spaced : Bd "_law_spaced" "_law_spaced" (topS 60) ["_law_source_here", "_law_signs"] := fun _ _ _ _ _ _ us hl => match us, hl with | [_, _], _ => rfl
theorem bd_lw_forms : Bd "_law_forms" "_law_forms" (topS 61) [] := fun _ _ _ _ _ _ us hl => match us, hl with | [], _ => rfl
theorem bd_lw_fits : Bd "_law_fits" "_law_fits" (topS 62) ["_law_lexeme_here", "_law_top"] := fun _ _ _ _ _ _ us hl => match us, hl with | [_, _], _ => rfl
theorem bd_lw_wrong_place : Bd "_law_wrong_place" "_law_wrong_place" (topS 63) ["_law_rules", "_law_text", "_law_form"] := fun _ _ _ _ _ _ us hl => match us, hl with | [_, _, _], _ => rfl
theorem bd_lw_drawn_signs : Bd "_law_drawn_signs" "_law_drawn_signs" (topS 64) ["_law_source_here", "_law_rules", "_law_form"] := fun _ _ _ _ _ _ us hl => match us, hl with | [_, _, _], _ => rfl
theorem bd_lw_spoilt_signs : Bd "_law_spoilt_signs" "_law_spoilt_signs" (topS 65) ["_law_source_here", "_law_signs"] := fun _ _ _ _ _ _ us hl => match us, hl with | [_, _], _ => rfl
theorem bd_lw_place : Bd "_law_place" "_law_place" (topS 66) ["_law_call", "_law_text"] := fun _ _ _ _ _ _ us hl => match us, hl with | [_, _], _ => rfl
theorem bd_lw_hand_right : Bd "_law_hand_right" "_law_hand_right" (topS 67) ["_law_rules"] := fun _ _ _ _ _ _ us hl => match us, hl with | [_], _ => rfl
theorem bd_m0 : Bd "__init__" "Lexer.__init__" (sM 0) ["self", "text"] := fun _ _ _ _ _ _ us hl => match us, hl with | [_, _], _ => rfl
theorem bd_m1 : Bd "what" "Lexer.what" (sM 1) ["self"] := fun _ _ _ _ _ _ us hl => match us, hl with | [_], _ => rfl
theorem bd_m2 : Bd "is_next" "Lexer.is_next" (sM 2) ["self", "lexeme"] := fun _ _ _ _ _ _ us hl => match us, hl with | [_, _], _ => rfl
theorem bd_m3 : Bd "is_one_of" "Lexer.is_one_of" (sM 3) ["self", "some"] := fun _ _ _ _ _ _ us hl => match us, hl with | [_, _], _ => rfl
theorem bd_m4 : Bd "go" "Lexer.go" (sM 4) ["self"] := fun _ _ _ _ _ _ us hl => match us, hl with | [_], _ => rfl
theorem bd_m5 : Bd "need" "Lexer.need" (sM 5) ["self", "is_right"] := fun _ _ _ _ _ _ us hl => match us, hl with | [_, _], _ => rfl
theorem bd_m6 : Bd "take" "Lexer.take" (sM 6) ["self", "lexeme"] := fun _ _ _ _ _ _ us hl => match us, hl with | [_, _], _ => rfl
theorem bd_m7 : Bd "has" "Lexer.has" (sM 7) ["self", "lexeme"] := fun _ _ _ _ _ _ us hl => match us, hl with | [_, _], _ => rfl
theorem bd_m8 : Bd "name" "Lexer.name" (sM 8) ["self"] := fun _ _ _ _ _ _ us hl => match us, hl with | [_], _ => rfl
theorem bd_m9 : Bd "finish" "Lexer.finish" (sM 9) ["self"] := fun _ _ _ _ _ _ us hl => match us, hl with | [_], _ => rfl
theorem bd_law : Bd "law" "law" (topS 68) ["_law_script"] := fun _ _ _ _ _ _ us hl => match us, hl with | [_], _ => rfl
end K04
open PySem PySem.W PyProof.Rows K04
set_option maxRecDepth 100000 in
set_option maxHeartbeats 0 in
theorem PySem.Challenge.cw_bitloom_k04_whole_wrong_places_holds : PySem.Challenge.rw_bitloom_k04_whole_wrong_places.Holds := by
  refine K04.head ?_
  k_fill
  refine K04.walk_g (l := PySem.Challenge.rw_bitloom_k04_whole_wrong_places) (n := 63) (k := 185) (x := "_law_script") rfl (by decide) rfl ⟨rfl, by decide, by decide⟩ (fun w h Y => PySem.W.kIn_of Y) ?F
  intro w mg fa h KX G hmg
  have d_is_spelt := df_mk KX G (by k_is) (by k_is) (by k_is) (by k_is) bd_is_spelt
  have d_run_end := df_mk KX G (by k_is) (by k_is) (by k_is) (by k_is) bd_run_end
  have d_gap_end := df_mk KX G (by k_is) (by k_is) (by k_is) (by k_is) bd_gap_end
  have d_lexeme_at := df_mk KX G (by k_is) (by k_is) (by k_is) (by k_is) bd_lexeme_at
  have d_sign_level := df_mk KX G (by k_is) (by k_is) (by k_is) (by k_is) bd_sign_level
  have d_read_chain := df_mk KX G (by k_is) (by k_is) (by k_is) (by k_is) bd_read_chain
  have d_part_here := df_mk KX G (by k_is) (by k_is) (by k_is) (by k_is) bd_part_here
  have d_read_number_part := df_mk KX G (by k_is) (by k_is) (by k_is) (by k_is) bd_read_number_part
  have d_number_here := df_mk KX G (by k_is) (by k_is) (by k_is) (by k_is) bd_number_here
  have d_numbers_here := df_mk KX G (by k_is) (by k_is) (by k_is) (by k_is) bd_numbers_here
  have d_place_here := df_mk KX G (by k_is) (by k_is) (by k_is) (by k_is) bd_place_here
  have d_read_atom := df_mk KX G (by k_is) (by k_is) (by k_is) (by k_is) bd_read_atom
  have d_read_part_here := df_mk KX G (by k_is) (by k_is) (by k_is) (by k_is) bd_read_part_here
  have d_expression_here := df_mk KX G (by k_is) (by k_is) (by k_is) (by k_is) bd_expression_here
  have d_sizes_here := df_mk KX G (by k_is) (by k_is) (by k_is) (by k_is) bd_sizes_here
  have d_end_here := df_mk KX G (by k_is) (by k_is) (by k_is) (by k_is) bd_end_here
  have d_width_here := df_mk KX G (by k_is) (by k_is) (by k_is) (by k_is) bd_width_here
  have d_reg_here := df_mk KX G (by k_is) (by k_is) (by k_is) (by k_is) bd_reg_here
  have d_mem_here := df_mk KX G (by k_is) (by k_is) (by k_is) (by k_is) bd_mem_here
  have d_ports_here := df_mk KX G (by k_is) (by k_is) (by k_is) (by k_is) bd_ports_here
  have d_named_here := df_mk KX G (by k_is) (by k_is) (by k_is) (by k_is) bd_named_here
  have d_each_here := df_mk KX G (by k_is) (by k_is) (by k_is) (by k_is) bd_each_here
  have d_when_here := df_mk KX G (by k_is) (by k_is) (by k_is) (by k_is) bd_when_here
  have d_item_here := df_mk KX G (by k_is) (by k_is) (by k_is) (by k_is) bd_item_here
  have d_module_here := df_mk KX G (by k_is) (by k_is) (by k_is) (by k_is) bd_module_here
  have d_design_here := df_mk KX G (by k_is) (by k_is) (by k_is) (by k_is) bd_design_here
  have d_read_design := df_mk KX G (by k_is) (by k_is) (by k_is) (by k_is) bd_read_design
  have d_read_expression := df_mk KX G (by k_is) (by k_is) (by k_is) (by k_is) bd_read_expression
  have d_read_number := df_mk KX G (by k_is) (by k_is) (by k_is) (by k_is) bd_read_number
  have d_lw_source := df_mk KX G (by k_is) (by k_is) (by k_is) (by k_is) bd_lw_source
  have d_lw_pick := df_mk KX G (by k_is) (by k_is) (by k_is) (by k_is) bd_lw_pick
  have d_lw_of := df_mk KX G (by k_is) (by k_is) (by k_is) (by k_is) bd_lw_of
  have d_lw_keywords := df_mk KX G (by k_is) (by k_is) (by k_is) (by k_is) bd_lw_keywords
  have d_lw_is_name := df_mk KX G (by k_is) (by k_is) (by k_is) (by k_is) bd_lw_is_name
  have d_lw_any_name := df_mk KX G (by k_is) (by k_is) (by k_is) (by k_is) bd_lw_any_name
  have d_lw_run_end := df_mk KX G (by k_is) (by k_is) (by k_is) (by k_is) bd_lw_run_end
  have d_lw_lexeme := df_mk KX G (by k_is) (by k_is) (by k_is) (by k_is) bd_lw_lexeme
  have d_lw_spaced := df_mk KX G (by k_is) (by k_is) (by k_is) (by k_is) bd_lw_spaced
  have d_lw_forms := df_mk KX G (by k_is) (by k_is) (by k_is) (by k_is) bd_lw_forms
  have d_lw_fits := df_mk KX G (by k_is) (by k_is) (by k_is) (by k_is) bd_lw_fits
  have d_lw_wrong_place := df_mk KX G (by k_is) (by k_is) (by k_is) (by k_is) bd_lw_wrong_place
  have d_lw_drawn_signs := df_mk KX G (by k_is) (by k_is) (by k_is) (by k_is) bd_lw_drawn_signs
  have d_lw_spoilt_signs := df_mk KX G (by k_is) (by k_is) (by k_is) (by k_is) bd_lw_spoilt_signs
  have d_lw_place := df_mk KX G (by k_is) (by k_is) (by k_is) (by k_is) bd_lw_place
  have d_lw_hand_right := df_mk KX G (by k_is) (by k_is) (by k_is) (by k_is) bd_lw_hand_right
  have d_items := dfD_mk KX G (by k_is) (by k_is) (by k_is) (by k_is) (by k_is)
  have n_len := PySem.W.mg_none_of (n := "len") KX G (by k_is)
  have n_range := PySem.W.mg_none_of (n := "range") KX G (by k_is)
  have n_all := PySem.W.mg_none_of (n := "all") KX G (by k_is)
  have n_tuple := PySem.W.mg_none_of (n := "tuple") KX G (by k_is)
  have n_int := PySem.W.mg_none_of (n := "int") KX G (by k_is)
  have n_isinstance := PySem.W.mg_none_of (n := "isinstance") KX G (by k_is)
  have n_str := PySem.W.mg_none_of (n := "str") KX G (by k_is)
  have n_max := PySem.W.mg_none_of (n := "max") KX G (by k_is)
  have n_abs := PySem.W.mg_none_of (n := "abs") KX G (by k_is)
  have n_repr := PySem.W.mg_none_of (n := "repr") KX G (by k_is)
  have n_super := PySem.W.mg_none_of (n := "super") KX G (by k_is)
  have s_LETTERS := str_mk (x := "LETTERS") KX G (by k_is)
  have s_FIGURES := str_mk (x := "FIGURES") KX G (by k_is)
  have s_SIGNS := str_mk (x := "SIGNS") KX G (by k_is)
  have s_BLANKS := str_mk (x := "BLANKS") KX G (by k_is)
  have s_SINGLES := str_mk (x := "SINGLES") KX G (by k_is)
  have t_PAIRS := tup_mk (x := "PAIRS") (xs := PRS.map L2.V.str) KX G (by k_is) (by k_is) (by decide) (by repeat (first | exact .nil | refine .cons ?_ ?_ | exact rv_int | exact rv_str | exact ⟨⟨_, rfl⟩, rv_int⟩ | exact ⟨⟨_, rfl⟩, rv_str⟩))
  have t_KEYWORDS := tup_mk (x := "KEYWORDS") (xs := KWS.map L2.V.str) KX G (by k_is) (by k_is) (by decide) (by repeat (first | exact .nil | refine .cons ?_ ?_ | exact rv_int | exact rv_str | exact ⟨⟨_, rfl⟩, rv_int⟩ | exact ⟨⟨_, rfl⟩, rv_str⟩))
  have t_STARTS := tup_mk (x := "STARTS") (xs := STS.map L2.V.str) KX G (by k_is) (by k_is) (by decide) (by repeat (first | exact .nil | refine .cons ?_ ?_ | exact rv_int | exact rv_str | exact ⟨⟨_, rfl⟩, rv_int⟩ | exact ⟨⟨_, rfl⟩, rv_str⟩))
  have k_NUMBER_WORDS := tab_mk (x := "NUMBER_WORDS") (tab := wdT true) (w := w) KX G (by k_is) (by k_is) (by repeat (first | exact True.intro | refine ⟨⟨_, _, rfl, rfl⟩, ?_⟩)) (by repeat (first | exact .nil | refine .cons ?_ ?_ | exact rv_int | exact rv_str | exact ⟨⟨_, rfl⟩, rv_int⟩ | exact ⟨⟨_, rfl⟩, rv_str⟩)) (by decide)
  have k_NUMBER_LEVELS := tab_mk (x := "NUMBER_LEVELS") (tab := lvT true) (w := w) KX G (by k_is) (by k_is) (by repeat (first | exact True.intro | refine ⟨⟨_, _, rfl, rfl⟩, ?_⟩)) (by repeat (first | exact .nil | refine .cons ?_ ?_ | exact rv_int | exact rv_str | exact ⟨⟨_, rfl⟩, rv_int⟩ | exact ⟨⟨_, rfl⟩, rv_str⟩)) (by decide)
  have k_WORDS := tab_mk (x := "WORDS") (tab := wdT false) (w := w) KX G (by k_is) (by k_is) (by repeat (first | exact True.intro | refine ⟨⟨_, _, rfl, rfl⟩, ?_⟩)) (by repeat (first | exact .nil | refine .cons ?_ ?_ | exact rv_int | exact rv_str | exact ⟨⟨_, rfl⟩, rv_int⟩ | exact ⟨⟨_, rfl⟩, rv_str⟩)) (by decide)
  have k_LEVELS := tab_mk (x := "LEVELS") (tab := lvT false) (w := w) KX G (by k_is) (by k_is) (by repeat (first | exact True.intro | refine ⟨⟨_, _, rfl, rfl⟩, ?_⟩)) (by repeat (first | exact .nil | refine .cons ?_ ?_ | exact rv_int | exact rv_str | exact ⟨⟨_, rfl⟩, rv_int⟩ | exact ⟨⟨_, rfl⟩, rv_str⟩)) (by decide)
  have k_AHEAD_WORDS := tab_mk (x := "AHEAD_WORDS") (tab := ahT) (w := w) KX G (by k_is) (by k_is) (by repeat (first | exact True.intro | refine ⟨⟨_, _, rfl, rfl⟩, ?_⟩)) (by repeat (first | exact .nil | refine .cons ?_ ?_ | exact rv_int | exact rv_str | exact ⟨⟨_, rfl⟩, rv_int⟩ | exact ⟨⟨_, rfl⟩, rv_str⟩)) (by decide)
  have c := cls_mk KX G (by k_is) (by k_is) (by k_is) (by k_is) (by k_is) (by k_is) (by k_is) (by k_is) (by k_is) (md_mk (by k_is) (by k_is) (by k_is) (by k_is) (by k_is) bd_m0) (md_mk (by k_is) (by k_is) (by k_is) (by k_is) (by k_is) bd_m1) (md_mk (by k_is) (by k_is) (by k_is) (by k_is) (by k_is) bd_m2) (md_mk (by k_is) (by k_is) (by k_is) (by k_is) (by k_is) bd_m3) (md_mk (by k_is) (by k_is) (by k_is) (by k_is) (by k_is) bd_m4) (md_mk (by k_is) (by k_is) (by k_is) (by k_is) (by k_is) bd_m5) (md_mk (by k_is) (by k_is) (by k_is) (by k_is) (by k_is) bd_m6) (md_mk (by k_is) (by k_is) (by k_is) (by k_is) (by k_is) bd_m7) (md_mk (by k_is) (by k_is) (by k_is) (by k_is) (by k_is) bd_m8) (md_mk (by k_is) (by k_is) (by k_is) (by k_is) (by k_is) bd_m9)
  have e := bad_mk (P := PySem.Challenge.pw_bitloom_k04_whole_wrong_places) KX G (by k_is) (by k_is) (by decide +kernel) (by k_is) (by k_is) (by k_is) (by k_is) (by k_is) (by first | rfl | k_is) (by k_is) (by k_is) (by k_is) (by k_is) (by k_is) (by k_is) (by k_is) (by k_is) (by k_is) (by k_is) rfl (by decide +kernel) (by k_is) (by decide +kernel) (by k_is) (by k_is) (by k_is) (by k_is) (by first | k_is | rfl | decide +kernel)
  have d_law := df_mk (x := "law") (st := topS 68) (ps := ["_law_script"]) KX G (by k_is) (by k_is) (by k_is) (by k_is) bd_law
  have hf : fa = d_law.f := by have z := hmg.symm.trans d_law.g; injection z with z; injection z
  subst hf
  let lx : LxTx _ mg := { ml := n_len, mr := n_range, ma := n_all, tL := s_LETTERS.t, mL := s_LETTERS.g, tF := s_FIGURES.t, mF := s_FIGURES.g, tS := s_SIGNS.t, mS := s_SIGNS.g, tB := s_BLANKS.t, mB := s_BLANKS.g, tG := s_SINGLES.t, mG := s_SINGLES.g, aP := t_PAIRS.a, mP := t_PAIRS.g, hP := t_PAIRS.k, aK := t_KEYWORDS.a, mK := t_KEYWORDS.g, hK := t_KEYWORDS.k, dRun := d_run_end, dGap := d_gap_end, dSp := d_is_spelt, dLx := d_lexeme_at }
  let la : LA PySem.Challenge.pw_bitloom_k04_whole_wrong_places _ mg c.C e.CB e.f1 e.cc e.cda := { L := lx, T := c.c, B := e.B, fdI := e.fdI, hfd := e.hfd, bI := e.bI }
  let rt : RdTx w _ mg := { sign_level := d_sign_level, read_chain := d_read_chain, part_here := d_part_here, read_number_part := d_read_number_part, number_here := d_number_here, numbers_here := d_numbers_here, place_here := d_place_here, read_atom := d_read_atom, read_part_here := d_read_part_here, expression_here := d_expression_here, sizes_here := d_sizes_here, end_here := d_end_here, width_here := d_width_here, reg_here := d_reg_here, mem_here := d_mem_here, ports_here := d_ports_here, named_here := d_named_here, each_here := d_each_here, when_here := d_when_here, item_here := d_item_here, module_here := d_module_here, design_here := d_design_here, items_here := d_items.d, items1 := d_items.i1, aNUMBER_WORDS := k_NUMBER_WORDS.a, gNUMBER_WORDS := k_NUMBER_WORDS.g, kNUMBER_WORDS := k_NUMBER_WORDS.k, aNUMBER_LEVELS := k_NUMBER_LEVELS.a, gNUMBER_LEVELS := k_NUMBER_LEVELS.g, kNUMBER_LEVELS := k_NUMBER_LEVELS.k, aWORDS := k_WORDS.a, gWORDS := k_WORDS.g, kWORDS := k_WORDS.k, aLEVELS := k_LEVELS.a, gLEVELS := k_LEVELS.g, kLEVELS := k_LEVELS.k, aAHEAD_WORDS := k_AHEAD_WORDS.a, gAHEAD_WORDS := k_AHEAD_WORDS.g, kAHEAD_WORDS := k_AHEAD_WORDS.k, aSTARTS := t_STARTS.a, gSTARTS := t_STARTS.g, kSTARTS := t_STARTS.k, m_tuple := n_tuple, m_int := n_int }
  let xt : TxTx _ mg := { read_design := d_read_design, read_expression := d_read_expression, read_number := d_read_number }
  let zt : LwTx _ mg := { lw_source := d_lw_source, lw_pick := d_lw_pick, lw_of := d_lw_of, lw_keywords := d_lw_keywords, lw_is_name := d_lw_is_name, lw_any_name := d_lw_any_name, lw_run_end := d_lw_run_end, lw_lexeme := d_lw_lexeme, lw_spaced := d_lw_spaced, lw_forms := d_lw_forms, lw_fits := d_lw_fits, lw_wrong_place := d_lw_wrong_place, lw_drawn_signs := d_lw_drawn_signs, lw_spoilt_signs := d_lw_spoilt_signs, lw_place := d_lw_place, lw_hand_right := d_lw_hand_right, m_len := n_len, m_range := n_range, m_isinstance := n_isinstance, m_str := n_str, m_max := n_max, m_abs := n_abs, m_int := n_int, m_tuple := n_tuple }
  exact ⟨d_law.fd, K04.bind1 d_law bd_law, fun base => K04.ok_law la rt xt zt ⟨e.B.ga, e.B.gg, e.B.oex.exC, e.B.hd⟩ n_repr d_law.F⟩
end
