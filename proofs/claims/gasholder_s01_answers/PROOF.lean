import PyProof.Rows.All
import Wide.All
import OpenK.AllK
import Wide.FinOn
import PyProof.EqAt
import PyProof.EqKinds
import PyProof.TupleCall
import Open.SpecLaws
import KE.OsGo
import HandS.ForSpec
import HandS.ForMost
import HandS.TryMany
import HandS.ExcInit
import HandS.ExcField
import HandS.CallSlots
import HandS.Evl
import HandS.TupAny
import HandS.TupMul
import HandS.TupLe
import HandS.NoneIn
import HandS.Walk
import HandS.Zip
import HandS.Deep
import HandS.SortInts
import KE.KDictKeyed
import KE.KeyNested
import KE.KDictWalk
import KE.KDictDisplayH
import KE.SortData
import KE.LtSeq
import KE.LtData
import PyMu14
import PySem.Challenge.RW_gasholder_s01_answers
set_option Elab.async false
set_option linter.all false
set_option maxRecDepth 100000
set_option maxHeartbeats 4000000
/-! Reading: what the program computes, in plain Lean, and that it is the specification's reading. -/
namespace G
open Mu14
/-! ### rows and words -/
/-- one byte of parted: what is closed, what is open -/
def pstep (at' : Nat) (s : List (List Nat) × List Nat) (b : Nat) : List (List Nat) × List Nat := if b = at' then (s.1 ++ [s.2], []) else (s.1, s.2 ++ [b])
def prun (at' : Nat) (row : List Nat) : List (List Nat) × List Nat := row.foldl (pstep at') ([], [])
def parts (at' : Nat) (row : List Nat) : List (List Nat) := (prun at' row).1 ++ [(prun at' row).2]
def rp (at' : Nat) : List Nat → List (List Nat)
  | [] => [[]]
  | b :: r => if b = at' then [] :: rp at' r else match rp at' r with
    | [] => [[b]]
    | l :: m => (b :: l) :: m
theorem rp_ne (a : Nat) : ∀ l, rp a l ≠ []
  | [] => by simp [rp]
  | b :: r => by
    unfold rp
    split
    · simp
    · split <;> simp
theorem prun_rp (a : Nat) : ∀ (row : List Nat) (i : List (List Nat)) (c : List Nat), (row.foldl (pstep a) (i, c)).1 ++ [(row.foldl (pstep a) (i, c)).2] = i ++ (match rp a row with | [] => [c] | l :: m => (c ++ l) :: m)
  | [], i, c => by simp [rp]
  | b :: r, i, c => by
    rw [List.foldl_cons]
    by_cases h : b = a
    · have e : pstep a (i, c) b = (i ++ [c], []) := by simp [pstep, h]
      rw [e, prun_rp a r]
      simp only [rp, h, if_true]
      cases q : rp a r with
      | nil => exact absurd q (rp_ne a r)
      | cons l m => simp
    · have e : pstep a (i, c) b = (i, c ++ [b]) := by simp [pstep, h]
      rw [e, prun_rp a r]
      simp only [rp, h, if_false]
      cases q : rp a r with
      | nil => exact absurd q (rp_ne a r)
      | cons l m => simp
theorem parts_rp (a : Nat) (row : List Nat) : parts a row = rp a row := by
  unfold parts prun
  rw [prun_rp]
  cases q : rp a row with
  | nil => exact absurd q (rp_ne a row)
  | cons l m => simp
theorem lines_rp : ∀ t, lines t = rp 10 t
  | [] => rfl
  | b :: r => by
    by_cases h : b = 10
    · subst h
      simp [lines, rp, lines_rp r]
    · rw [lines, lines_rp r]
      · simp only [rp, h, if_false]
        cases rp 10 r <;> rfl
      · intro h'; exact h h'
theorem lines_parts (t : List Nat) : lines t = parts 10 t := (lines_rp t).trans (parts_rp 10 t).symm
theorem rp_take (a : Nat) : ∀ l, rp a l = (l.takeWhile fun x => x != a) :: (match l.dropWhile fun x => x != a with | [] => [] | _ :: t => rp a t)
  | [] => rfl
  | b :: r => by
    by_cases h : b = a
    · subst h
      simp [rp, List.takeWhile_cons, List.dropWhile_cons]
    · have hb : (b != a) = true := by simpa using h
      rw [List.takeWhile_cons, List.dropWhile_cons, hb]
      simp only [rp, h, if_false, if_true]
      rw [rp_take a r]
def words (l : List Nat) : List (List Nat) := (parts 32 l).filter fun w => !w.isEmpty
theorem words_nil : words [] = [] := rfl
theorem words_blank (r : List Nat) : words (32 :: r) = words r := by
  unfold words
  rw [parts_rp, parts_rp]
  simp [rp]
theorem words_cons {c : Nat} {r : List Nat} (h : c ≠ 32) : words (c :: r) = ((c :: r).takeWhile fun x => x != 32) :: words ((c :: r).dropWhile fun x => x != 32) := by
  unfold words
  rw [parts_rp, parts_rp, rp_take]
  have hb : (c != 32) = true := by simpa using h
  rw [List.filter_cons]
  have e : (!((c :: r).takeWhile fun x => x != 32).isEmpty) = true := by
    rw [List.takeWhile_cons, hb]
    rfl
  rw [e]
  simp only [if_true]
  congr 1
  cases q : (c :: r).dropWhile fun x => x != 32 with
  | nil => rfl
  | cons d t =>
    have hd : d = 32 := by
      have := List.head?_dropWhile_not (fun x => x != 32) (c :: r)
      rw [q] at this
      simpa using this
    subst hd
    simp [rp]
theorem words_ne {l w : List Nat} (h : w ∈ words l) : w ≠ [] := by
  unfold words at h
  have := (List.mem_filter.mp h).2
  intro e
  subst e
  simp at this
/-! ### names and numbers -/
def isName (w : List Nat) : Bool := decide (w.length ≤ 12) && w.all small
def isNumber (w : List Nat) : Bool := if decide (w.length > 4) || !(w.all digit) then false else decide (w.length = 1) || decide (w.headD 0 ≠ 48)
def isWord (w : List Nat) : Bool := isName w || isNumber w
def tokOf (w : List Nat) : Tok := if w.all small = true then .name w else .num (numberOf w)
theorem small_digit {c : Nat} (h : small c = true) : digit c = false := by
  unfold small at h
  unfold digit
  simp at h
  simp
  omega
theorem name_not_number {w : List Nat} (hw : w ≠ []) (h : w.all small = true) : isNumber w = false := by
  cases w with
  | nil => exact absurd rfl hw
  | cons c r =>
    have hc : small c = true := by
      rw [List.all_cons] at h
      exact (Bool.and_eq_true_iff.mp h).1
    unfold isNumber
    rw [List.all_cons, small_digit hc]
    simp
theorem toks_words : ∀ (k : Nat) (l : List Nat), l.length < k → toks k l = if (words l).all isWord = true then .ok ((words l).map tokOf) else .error 1
  | 0, l, h => by omega
  | k + 1, [], _ => rfl
  | k + 1, c :: r, h => by
    have h' : r.length + 1 < k + 1 := h
    by_cases hc : c = 32
    · subst hc
      rw [words_blank, ← toks_words k r (by omega)]
      simp [toks]
    · have hb : (c != 32) = true := by simpa using hc
      have hl : ((c :: r).dropWhile fun x => x != 32).length < k := by
        rw [List.dropWhile_cons, hb]
        simp only [if_true]
        have := (List.dropWhile_sublist (fun x => x != 32) (l := r)).length_le
        omega
      have ih := toks_words k _ hl
      rw [words_cons hc]
      rw [toks]
      simp only [hc, if_false]
      have hne : ((c :: r).takeWhile fun x => x != 32) ≠ [] := by
        rw [List.takeWhile_cons, hb]
        simp
      have hhd : ((c :: r).takeWhile fun x => x != 32).headD 0 = c := by
        rw [List.takeWhile_cons, hb]
        rfl
      generalize hB : ((c :: r).takeWhile fun x => x != 32) = b at hne hhd ⊢
      generalize hL : ((c :: r).dropWhile fun x => x != 32) = d at ih ⊢
      rw [List.all_cons, List.map_cons]
      by_cases h1 : b.all small = true
      · have hnn := name_not_number hne h1
        simp only [h1, if_true]
        by_cases h2 : 12 < b.length
        · have : isWord b = false := by
            simp [isWord, isName, hnn]
            intro h3
            omega
          simp [this, h2]
          rfl
        · have : isWord b = true := by
            have h1' := List.all_eq_true.mp h1
            simp [isWord, isName]
            exact Or.inl ⟨by omega, h1'⟩
          simp only [h2, if_false, this, Bool.true_and]
          rw [ih]
          by_cases h3 : (words d).all isWord = true
          · simp [h3, tokOf, h1]
            rfl
          · simp only [h3]
            rfl
      · simp only [h1]
        have hnm : isName b = false := by simp [isName, h1]
        by_cases h2 : b.all digit = true
        · simp only [h2, if_true]
          by_cases h3 : 4 < b.length ∨ (1 < b.length ∧ c = 48)
          · have : isWord b = false := by
              simp only [isWord, hnm, Bool.false_or]
              unfold isNumber
              rw [h2, hhd]
              rcases h3 with h3 | ⟨h3, h4⟩
              · simp [h3]
              · have h5 : ¬ b.length = 1 := by omega
                simp [h4, h5]
            simp [this, h3]
            rfl
          · have : isWord b = true := by
              simp only [isWord, hnm, Bool.false_or]
              unfold isNumber
              rw [h2, hhd]
              have h4 : ¬ b.length > 4 := fun z => h3 (Or.inl z)
              simp [h4]
              have hp : 0 < b.length := List.length_pos_iff.mpr hne
              by_cases h5 : b.length = 1
              · exact Or.inl h5
              · right
                intro h6
                exact h3 (Or.inr ⟨by omega, h6⟩)
            simp only [h3, if_false, this, Bool.true_and]
            rw [ih]
            by_cases h4 : (words d).all isWord = true
            · simp [h4, tokOf, h1]
              rfl
            · simp only [h4]
              rfl
        · have : isWord b = false := by
            simp only [isWord, hnm, Bool.false_or]
            unfold isNumber
            simp [h2]
          simp [h2, this]
          rfl
end G

namespace G
open Mu14
/-! ### a line's words -/
inductive Kw where
  | holder | retorts | leak | charge | use
  deriving DecidableEq
def kwB : Kw → List Nat
  | .holder => ascii "holder"
  | .retorts => ascii "retorts"
  | .leak => ascii "leak"
  | .charge => ascii "charge"
  | .use => ascii "use"
def kws : List Kw := [.holder, .retorts, .leak, .charge, .use]
def told (w : List Nat) : Option Kw := kws.find? fun k => decide (w = kwB k)
def numbersOf (ws : List (List Nat)) : List Nat := ws.map numberOf
def hasForm (k : Kw) (ws : List (List Nat)) : Bool :=
  if k = .use then decide (ws.length = 4) && (isName (ws.headD []) && (ws.drop 1).all isNumber)
  else if !(ws.all isNumber) then false
  else if k = .charge then !ws.isEmpty
  else decide (ws.length = 1 + if k = .holder then 1 else 0)
def inB (n lo hi : Nat) : Bool := decide (lo ≤ n) && decide (n ≤ hi)
def areWithin (k : Kw) (n : List Nat) : Bool := match k with
  | .holder => inB (n.getD 0 0) 1 30 && decide (n.getD 1 0 ≤ n.getD 0 0)
  | .retorts => inB (n.getD 0 0) 1 3
  | .leak => decide (n.getD 0 0 ≤ 5)
  | .charge => n.all fun x => decide (x ≤ 20)
  | .use => inB (n.getD 0 0) 1 20 && (decide (n.getD 1 0 ≤ 23) && decide (n.getD 2 0 ≤ 23))
/-- what is told once -/
def onceOf (W : Works) : Kw → Option (List Nat)
  | .holder => W.holder.map fun p => [p.1, p.2]
  | .retorts => W.retorts.map fun n => [n]
  | .leak => W.leak.map fun n => [n]
  | .charge => if W.charge.isEmpty then none else some W.charge
  | .use => none
def isThere (W : Works) (k : Kw) (ws : List (List Nat)) : Bool :=
  if k = .use then W.uses.any fun u => decide (u.name = ws.headD []) else (onceOf W k).isSome
def tooMany (W : Works) (k : Kw) (ws : List (List Nat)) : Bool :=
  if k = .use then decide (W.uses.length = 8) else decide (k = .charge) && decide (ws.length > 3)
def fault (W : Works) (ws : List (List Nat)) : Nat :=
  if !(ws.all isWord) then 1 else match told (ws.headD []) with
  | none => 2
  | some k => if !(hasForm k (ws.drop 1)) then 2
    else if isThere W k (ws.drop 1) then 4
    else if tooMany W k (ws.drop 1) then 6
    else if !(areWithin k (numbersOf (ws.drop (1 + if k = .use then 1 else 0)))) then 5
    else 0
def takeW (W : Works) (ws : List (List Nat)) : Works :=
  let n := numbersOf (ws.drop 1)
  match told (ws.headD []) with
  | some .holder => { W with holder := some (n.getD 0 0, n.getD 1 0) }
  | some .retorts => { W with retorts := some (n.getD 0 0) }
  | some .leak => { W with leak := some (n.getD 0 0) }
  | some .charge => { W with charge := n }
  | some .use => { W with uses := W.uses ++ [⟨ws.getD 1 [], n.getD 1 0, n.getD 2 0, n.getD 3 0⟩] }
  | none => W
/-! ### tokens -/
theorem tok_name {w : List Nat} (h : w.all small = true) : tokOf w = .name w := by simp [tokOf, h]
theorem tok_num {w : List Nat} (h : ¬ w.all small = true) : tokOf w = .num (numberOf w) := by simp [tokOf, h]
theorem word_kind {w : List Nat} (hw : w ≠ []) (h : isWord w = true) : (isName w = true ∧ isNumber w = false ∧ tokOf w = .name w) ∨ (isName w = false ∧ isNumber w = true ∧ tokOf w = .num (numberOf w)) := by
  by_cases h1 : w.all small = true
  · have h2 := name_not_number hw h1
    have h3 : isName w = true := by simpa [isWord, h2] using h
    exact Or.inl ⟨h3, h2, tok_name h1⟩
  · have h3 : isName w = false := by simp [isName, h1]
    have h2 : isNumber w = true := by simpa [isWord, h3] using h
    exact Or.inr ⟨h3, h2, tok_num h1⟩
/-- all are numbers: then the tokens are -/
theorem numbers_of : ∀ (ws : List (List Nat)), (∀ w ∈ ws, w ≠ []) → ws.all isWord = true → numbers (ws.map tokOf) = if ws.all isNumber = true then some (numbersOf ws) else none
  | [], _, _ => rfl
  | w :: r, hn, ha => by
    rw [List.all_cons, Bool.and_eq_true] at ha
    have ih := numbers_of r (fun x hx => hn x (List.mem_cons_of_mem _ hx)) ha.2
    rw [List.all_cons, List.map_cons]
    rcases word_kind (hn w List.mem_cons_self) ha.1 with ⟨_, h2, h3⟩ | ⟨_, h2, h3⟩
    · rw [h3, h2]
      simp [numbers]
    · rw [h3, h2]
      simp only [numbers, ih, Bool.true_and]
      by_cases h4 : r.all isNumber = true
      · simp [h4, numbersOf]
      · simp [h4]
theorem told_cases (w : List Nat) : told w = if w = kwB .holder then some .holder else if w = kwB .retorts then some .retorts else if w = kwB .leak then some .leak else if w = kwB .charge then some .charge else if w = kwB .use then some .use else none := by
  by_cases h1 : w = kwB .holder
  · subst h1; decide
  · by_cases h2 : w = kwB .retorts
    · subst h2; decide
    · by_cases h3 : w = kwB .leak
      · subst h3; decide
      · by_cases h4 : w = kwB .charge
        · subst h4; decide
        · by_cases h5 : w = kwB .use
          · subst h5; decide
          · unfold told kws
            simp [h1, h2, h3, h4, h5]
theorem told_some {w : List Nat} {k : Kw} (h : told w = some k) : w = kwB k := by
  rw [told_cases] at h
  split at h
  · cases h; assumption
  · split at h
    · cases h; assumption
    · split at h
      · cases h; assumption
      · split at h
        · cases h; assumption
        · split at h
          · cases h; assumption
          · cases h
theorem told_none {w : List Nat} (h : told w = none) (k : Kw) : w ≠ kwB k := by
  intro e
  subst e
  cases k <;> exact absurd h (by decide)
theorem kwB_small (k : Kw) : (kwB k).all small = true := by cases k <;> decide
theorem kwB_ne {j k : Kw} (h : j ≠ k) : kwB j ≠ kwB k := by
  cases j <;> cases k <;> first | exact absurd rfl h | decide
/-- what is told once is put, its word w, its numbers l -/
def putO (W : Works) (w : List Nat) (l : List Nat) : Except Nat Works := do
      if w = ascii "holder" then match l with
        | [c, f] =>
          need W.holder.isNone 4
          need (between c 1 30 && decide (f ≤ c)) 5
          return { W with holder := some (c, f) }
        | _ => throw 2
      else if w = ascii "retorts" then match l with
        | [n] =>
          need W.retorts.isNone 4
          need (between n 1 3) 5
          return { W with retorts := some n }
        | _ => throw 2
      else if w = ascii "leak" then match l with
        | [n] =>
          need W.leak.isNone 4
          need (decide (n ≤ 5)) 5
          return { W with leak := some n }
        | _ => throw 2
      else if w = ascii "charge" then
        need (!l.isEmpty) 2
        need W.charge.isEmpty 4
        need (decide (l.length ≤ 3)) 6
        need (l.all fun (n : Nat) => decide (n ≤ 20)) 5
        return { W with charge := l }
      else throw 2
theorem put_once {W : Works} {w : List Nat} {ts : List Tok} (h : w ≠ ascii "use") : put W (.name w :: ts) = match numbers ts with
    | none => .error 2
    | some l => putO W w l := by
  unfold put
  split
  · rename_i heq
    simp only [List.cons.injEq, Tok.name.injEq] at heq
    rw [← heq.1, heq.2]
    simp [h, numbers]
    rfl
  · rename_i heq
    simp only [List.cons.injEq, Tok.name.injEq] at heq
    rw [← heq.1, heq.2]
    split
    · rename_i e
      rw [e]
      rfl
    · rename_i e
      rw [e]
      rfl
  · rename_i hh
    exact absurd rfl (hh w ts)
def takeO (W : Works) (k : Kw) (l : List Nat) : Works := match k with
  | .holder => { W with holder := some (l.getD 0 0, l.getD 1 0) }
  | .retorts => { W with retorts := some (l.getD 0 0) }
  | .leak => { W with leak := some (l.getD 0 0) }
  | .charge => { W with charge := l }
  | .use => W
/-- the line is put as the specification puts it -/
theorem put_fault {W : Works} {ws : List (List Nat)} (h0 : ws ≠ []) (hn : ∀ w ∈ ws, w ≠ []) (ha : ws.all isWord = true) (hu : W.uses.length ≤ 8) :
    put W (ws.map tokOf) = if fault W ws = 0 then .ok (takeW W ws) else .error (fault W ws) := by
  obtain ⟨w, r, rfl⟩ : ∃ w r, ws = w :: r := by
    cases ws with
    | nil => exact absurd rfl h0
    | cons w r => exact ⟨w, r, rfl⟩
  have ha' := ha
  rw [List.all_cons, Bool.and_eq_true] at ha'
  have hr : ∀ x ∈ r, x ≠ [] := fun x hx => hn x (List.mem_cons_of_mem _ hx)
  have hnum := numbers_of r hr ha'.2
  have hf : fault W (w :: r) = match told w with
    | none => 2
    | some k => if !(hasForm k r) then 2
      else if isThere W k r then 4
      else if tooMany W k r then 6
      else if !(areWithin k (numbersOf (r.drop (if k = .use then 1 else 0)))) then 5
      else 0 := by
    unfold fault
    simp only [ha, Bool.not_true, if_false, List.headD_cons, List.drop_succ_cons, List.drop_zero]
    cases told w with
    | none => rfl
    | some k =>
      have e : (w :: r).drop (1 + if k = Kw.use then 1 else 0) = r.drop (if k = Kw.use then 1 else 0) := by
        rw [Nat.add_comm]; rfl
      simp only [e]
      rfl
  cases ht : told w with
  | none =>
    have hf2 : fault W (w :: r) = 2 := by rw [hf, ht]
    rw [hf2]
    simp only [List.map_cons]
    have n1 := told_none ht .holder
    have n2 := told_none ht .retorts
    have n3 := told_none ht .leak
    have n4 := told_none ht .charge
    have n5 := told_none ht .use
    simp only [kwB] at n1 n2 n3 n4 n5
    rcases word_kind (hn w List.mem_cons_self) ha'.1 with ⟨_, _, h3⟩ | ⟨_, _, h3⟩
    · rw [h3]
      unfold put
      split
      · rename_i heq
        simp only [List.cons.injEq, Tok.name.injEq] at heq
        rw [← heq.1]
        simp [n5]
        rfl
      · rename_i heq
        simp only [List.cons.injEq, Tok.name.injEq] at heq
        rw [← heq.1]
        split
        · rfl
        · simp [n1, n2, n3, n4]
          rfl
      · rfl
    · rw [h3]
      unfold put
      split
      · rename_i heq
        simp at heq
      · rename_i heq
        simp at heq
      · rfl
  | some k =>
    have hw := told_some ht
    have htk : tokOf w = .name w := tok_name (by rw [hw]; exact kwB_small k)
    rw [ht] at hf
    simp only [] at hf
    by_cases hk : k = .use
    · subst hk
      have hw' : w = ascii "use" := hw
      by_cases hform : hasForm .use r = true
      · have hform' := hform
        simp only [hasForm, if_true, Bool.and_eq_true, decide_eq_true_eq] at hform'
        obtain ⟨hlen, hnm, hnums⟩ := hform'
        obtain ⟨a, x, y, z, rfl⟩ : ∃ a x y z, r = [a, x, y, z] := by
          match r, hlen with
          | [a, x, y, z], _ => exact ⟨a, x, y, z, rfl⟩
        simp only [List.headD_cons] at hnm
        simp only [List.drop_succ_cons, List.drop_zero, List.all_cons, List.all_nil, Bool.and_eq_true] at hnums
        have ta : tokOf a = .name a := tok_name (by
          simp only [isName, Bool.and_eq_true] at hnm
          exact hnm.2)
        have tn : ∀ q, q ∈ [x, y, z] → isNumber q = true → tokOf q = .num (numberOf q) := fun q hq hq2 => by
          refine tok_num fun hs => ?_
          have h4 := name_not_number (hr q (by
            simp at hq ⊢
            rcases hq with h | h | h
            · exact Or.inr (Or.inl h)
            · exact Or.inr (Or.inr (Or.inl h))
            · exact Or.inr (Or.inr (Or.inr h)))) hs
          rw [h4] at hq2; cases hq2
        have tx := tn x (by simp) hnums.1
        have ty := tn y (by simp) hnums.2.1
        have tz := tn z (by simp) hnums.2.2.1
        simp only [List.map_cons, List.map_nil, htk, ta, tx, ty, tz]
        have e2 : fault W [w, a, x, y, z] = if (W.uses.any fun u => decide (u.name = a)) then 4 else if decide (W.uses.length = 8) then 6 else if !(inB (numberOf x) 1 20 && (decide (numberOf y ≤ 23) && decide (numberOf z ≤ 23))) then 5 else 0 := by
          rw [hf]
          simp only [hform, Bool.not_true, if_false, isThere, tooMany, areWithin, numbersOf, if_true, List.headD_cons, List.drop_succ_cons, List.drop_zero, List.map_cons, List.map_nil, List.getD_cons_zero, List.getD_cons_succ]
          rfl
        have e3 : takeW W [w, a, x, y, z] = { W with uses := W.uses ++ [⟨a, numberOf x, numberOf y, numberOf z⟩] } := by
          unfold takeW
          simp only [List.headD_cons, ht]
          rfl
        rw [e2, e3]
        simp only [put, hw', if_true]
        have ea : (W.uses.any fun u => u.name == a) = (W.uses.any fun u => decide (u.name = a)) := by
          congr 1
          funext u
          by_cases c : u.name = a <;> simp [c]
        rw [ea]
        by_cases c1 : (W.uses.any fun u => decide (u.name = a)) = true
        · simp [c1, need]
          rfl
        · have c1' : (W.uses.any fun u => decide (u.name = a)) = false := by simpa using c1
          rw [c1']
          by_cases c2 : W.uses.length = 8
          · simp [need, c2]
            rfl
          · have c3 : W.uses.length < 8 := by omega
            have eb : (between (numberOf x) 1 20 && (between (numberOf y) 0 23 && between (numberOf z) 0 23)) = (inB (numberOf x) 1 20 && (decide (numberOf y ≤ 23) && decide (numberOf z ≤ 23))) := by
              simp [between, inB]
            rw [eb]
            cases c4 : (inB (numberOf x) 1 20 && (decide (numberOf y ≤ 23) && decide (numberOf z ≤ 23))) with
            | true =>
              simp [need, c2, c3]
              rfl
            | false =>
              simp [need, c2, c3]
              rfl
      · have hform' : hasForm .use r = false := by simpa using hform
        have hf2 : fault W (w :: r) = 2 := by
          rw [hf, hform']
          rfl
        rw [hf2]
        simp only [List.map_cons, htk]
        unfold put
        split
        · rename_i heq
          simp only [List.cons.injEq, Tok.name.injEq] at heq
          exfalso
          obtain ⟨_, hm⟩ := heq
          have hlen : r.length = 4 := by
            have := congrArg List.length hm
            simpa using this
          match r, hlen, hm with
          | [a, x, y, z], _, hm =>
            simp only [List.map_cons, List.map_nil, List.cons.injEq, and_true] at hm
            apply hform
            have hall : isWord a = true ∧ isWord x = true ∧ isWord y = true ∧ isWord z = true := by
              have := ha'.2
              simp only [List.all_cons, List.all_nil, Bool.and_eq_true, and_true] at this
              exact this
            have ka := word_kind (hr a (by simp)) hall.1
            have kx := word_kind (hr x (by simp)) hall.2.1
            have ky := word_kind (hr y (by simp)) hall.2.2.1
            have kz := word_kind (hr z (by simp)) hall.2.2.2
            rw [hm.1] at ka
            rw [hm.2.1] at kx
            rw [hm.2.2.1] at ky
            rw [hm.2.2.2] at kz
            have ga : isName a = true := by
              rcases ka with k | k
              · exact k.1
              · exact absurd k.2.2 (by simp)
            have gx : isNumber x = true := by
              rcases kx with k | k
              · exact absurd k.2.2 (by simp)
              · exact k.2.1
            have gy : isNumber y = true := by
              rcases ky with k | k
              · exact absurd k.2.2 (by simp)
              · exact k.2.1
            have gz : isNumber z = true := by
              rcases kz with k | k
              · exact absurd k.2.2 (by simp)
              · exact k.2.1
            simp [hasForm, ga, gx, gy, gz]
        · rename_i heq
          simp only [List.cons.injEq, Tok.name.injEq] at heq
          rw [← heq.1, ← heq.2, hnum]
          split
          · rfl
          · have n1 : w ≠ ascii "holder" := by rw [hw']; decide
            have n2 : w ≠ ascii "retorts" := by rw [hw']; decide
            have n3 : w ≠ ascii "leak" := by rw [hw']; decide
            have n4 : w ≠ ascii "charge" := by rw [hw']; decide
            simp [n1, n2, n3, n4]
            rfl
        · rfl
    · -- not a use
      have nu : w ≠ ascii "use" := by
        rw [hw]
        exact kwB_ne (k := .use) hk
      rw [List.map_cons, htk, put_once nu, hnum]
      by_cases hall : r.all isNumber = true
      · rw [if_pos hall]
        show putO W w (numbersOf r) = _
        have hd : r.drop (if k = Kw.use then 1 else 0) = r := by rw [if_neg hk]; rfl
        rw [hd] at hf
        have hT : takeW W (w :: r) = takeO W k (numbersOf r) := by
          unfold takeW takeO
          simp only [List.headD_cons, ht, List.drop_succ_cons, List.drop_zero]
          cases k <;> first | rfl | exact absurd rfl hk
        have hlen : (numbersOf r).length = r.length := by simp [numbersOf]
        generalize hL : numbersOf r = l at hf hlen hT ⊢
        rw [hT]
        unfold putO
        have hemp : r.isEmpty = l.isEmpty := by
          cases r <;> cases l <;> simp_all
        have E0 : ∀ (n : Nat) (T : Works), fault W (w :: r) = n → n ≠ 0 → (if fault W (w :: r) = 0 then (Except.ok T : Except Nat Works) else .error (fault W (w :: r))) = .error n := fun n T e1 e2 => by rw [e1, if_neg e2]
        have E1 : ∀ (T : Works), fault W (w :: r) = 0 → (if fault W (w :: r) = 0 then (Except.ok T : Except Nat Works) else .error (fault W (w :: r))) = .ok T := fun T e1 => by rw [e1, if_pos rfl]
        simp only [hasForm, hall, hk, if_false, Bool.not_true, isThere, tooMany] at hf
        cases k with
        | use => exact absurd rfl hk
        | holder =>
          have hw' : w = ascii "holder" := hw
          simp only [hw', if_true]
          by_cases h2 : r.length = 2
          · obtain ⟨c, f, rfl⟩ : ∃ c f, l = [c, f] := by
              match l, hlen.trans h2 with
              | [c, f], _ => exact ⟨c, f, rfl⟩
            simp only [h2] at hf
            by_cases h4 : W.holder.isNone = true
            · have h4' : (onceOf W Kw.holder).isSome = false := by
                simp [onceOf] at h4 ⊢
                exact h4
              simp [h4'] at hf
              by_cases h5 : (between c 1 30 && decide (f ≤ c)) = true
              · have h5' : areWithin Kw.holder [c, f] = true := by simpa [areWithin, inB, between] using h5
                rw [← hw', E1 _ (by simpa [h5'] using hf)]
                simp [need, h4, h5]
                rfl
              · have h5' : areWithin Kw.holder [c, f] = false := by
                  have : ¬ areWithin Kw.holder [c, f] = true := by simpa [areWithin, inB, between] using h5
                  simpa using this
                rw [← hw', E0 5 _ (by simpa [h5'] using hf) (by decide)]
                simp [need, h4, h5]
                rfl
            · have h4' : (onceOf W Kw.holder).isSome = true := by
                simp [onceOf]
                cases q : W.holder with
                | none => simp [q] at h4
                | some _ => rfl
              rw [← hw', E0 4 _ (by simpa [h4'] using hf) (by decide)]
              simp [need, h4]
              rfl
          · rw [← hw', E0 2 _ (by simpa [h2] using hf) (by decide)]
            split
            · simp at hlen
              omega
            · rfl
        | retorts =>
          have hw' : w = ascii "retorts" := hw
          have n1 : ¬ (ascii "retorts" = ascii "holder") := by decide
          simp only [hw', n1, if_true, if_false]
          by_cases h2 : r.length = 1
          · obtain ⟨c, rfl⟩ : ∃ c, l = [c] := by
              match l, hlen.trans h2 with
              | [c], _ => exact ⟨c, rfl⟩
            simp only [h2] at hf
            by_cases h4 : W.retorts.isNone = true
            · have h4' : (onceOf W Kw.retorts).isSome = false := by
                simp [onceOf] at h4 ⊢
                exact h4
              simp [h4'] at hf
              by_cases h5 : between c 1 3 = true
              · have h5' : areWithin Kw.retorts [c] = true := by simpa [areWithin, inB, between] using h5
                rw [← hw', E1 _ (by simpa [h5'] using hf)]
                simp [need, h4, h5]
                rfl
              · have h5' : areWithin Kw.retorts [c] = false := by
                  have : ¬ areWithin Kw.retorts [c] = true := by simpa [areWithin, inB, between] using h5
                  simpa using this
                rw [← hw', E0 5 _ (by simpa [h5'] using hf) (by decide)]
                simp [need, h4, h5]
                rfl
            · have h4' : (onceOf W Kw.retorts).isSome = true := by
                simp [onceOf]
                cases q : W.retorts with
                | none => simp [q] at h4
                | some _ => rfl
              rw [← hw', E0 4 _ (by simpa [h4'] using hf) (by decide)]
              simp [need, h4]
              rfl
          · rw [← hw', E0 2 _ (by simpa [h2] using hf) (by decide)]
            split
            · simp at hlen
              omega
            · rfl
        | leak =>
          have hw' : w = ascii "leak" := hw
          have n1 : ¬ (ascii "leak" = ascii "holder") := by decide
          have n2 : ¬ (ascii "leak" = ascii "retorts") := by decide
          simp only [hw', n1, n2, if_true, if_false]
          by_cases h2 : r.length = 1
          · obtain ⟨c, rfl⟩ : ∃ c, l = [c] := by
              match l, hlen.trans h2 with
              | [c], _ => exact ⟨c, rfl⟩
            simp only [h2] at hf
            by_cases h4 : W.leak.isNone = true
            · have h4' : (onceOf W Kw.leak).isSome = false := by
                simp [onceOf] at h4 ⊢
                exact h4
              simp [h4'] at hf
              by_cases h5 : c ≤ 5
              · have h5' : areWithin Kw.leak [c] = true := by simpa [areWithin, inB, between] using h5
                rw [← hw', E1 _ (by simpa [h5'] using hf)]
                simp [need, h4, h5]
                rfl
              · have h5' : areWithin Kw.leak [c] = false := by
                  have : ¬ areWithin Kw.leak [c] = true := by simpa [areWithin, inB, between] using h5
                  simpa using this
                rw [← hw', E0 5 _ (by simpa [h5'] using hf) (by decide)]
                simp [need, h4, h5]
                rfl
            · have h4' : (onceOf W Kw.leak).isSome = true := by
                simp [onceOf]
                cases q : W.leak with
                | none => simp [q] at h4
                | some _ => rfl
              rw [← hw', E0 4 _ (by simpa [h4'] using hf) (by decide)]
              simp [need, h4]
              rfl
          · rw [← hw', E0 2 _ (by simpa [h2] using hf) (by decide)]
            split
            · simp at hlen
              omega
            · rfl
        | charge =>
          have hw' : w = ascii "charge" := hw
          have n1 : ¬ (ascii "charge" = ascii "holder") := by decide
          have n2 : ¬ (ascii "charge" = ascii "retorts") := by decide
          have n3 : ¬ (ascii "charge" = ascii "leak") := by decide
          simp only [hw', n1, n2, n3, if_true, if_false]
          rw [← hw']
          by_cases h2 : l.isEmpty = true
          · rw [hemp, h2] at hf
            rw [E0 2 _ (by simpa using hf) (by decide)]
            simp [need, h2]
            rfl
          · have h2' : l.isEmpty = false := by simpa using h2
            rw [hemp, h2'] at hf
            by_cases h4 : W.charge.isEmpty = true
            · have h4' : (onceOf W Kw.charge).isSome = false := by simp [onceOf, h4]
              simp [h4'] at hf
              rw [← hlen] at hf
              by_cases h6 : l.length ≤ 3
              · have h6' : ¬ 3 < l.length := by omega
                simp only [h6', if_false] at hf
                by_cases h5 : (l.all fun (n : Nat) => decide (n ≤ 20)) = true
                · have h5' : areWithin Kw.charge l = true := h5
                  rw [E1 _ (by simpa [h5'] using hf)]
                  simp [need, h2', h4, h5, h6]
                  rfl
                · have h5' : areWithin Kw.charge l = false := by
                    have : ¬ areWithin Kw.charge l = true := h5
                    simpa using this
                  rw [E0 5 _ (by simpa [h5'] using hf) (by decide)]
                  simp [need, h2', h4, h5, h6]
                  rfl
              · have h6' : 3 < l.length := by omega
                rw [E0 6 _ (by simpa [h6'] using hf) (by decide)]
                simp [need, h2', h4, h6]
                rfl
            · have h4' : (onceOf W Kw.charge).isSome = true := by simp [onceOf, h4]
              rw [E0 4 _ (by simpa [h4'] using hf) (by decide)]
              simp [need, h2', h4]
              rfl
      · rw [if_neg hall]
        have hf2 : fault W (w :: r) = 2 := by
          rw [hf]
          have : hasForm k r = false := by simp [hasForm, hk, hall]
          rw [this]
          rfl
        rw [hf2]
        rfl
end G

namespace G
open Mu14
/-! ### the whole text -/
/-- the rows from the n-th on, W so far -/
def rd (W : Works) (n : Nat) : List (List Nat) → Except (Nat × Nat) Works
  | [] => if (onceOf W .holder).isSome && ((onceOf W .retorts).isSome && (onceOf W .charge).isSome) then .ok W else .error (0, 7)
  | row :: r => if words row = [] ∨ row.headD 0 = 35 then rd W (n + 1) r
    else if fault W (words row) = 0 then rd (takeW W (words row)) (n + 1) r else .error (n, fault W (words row))
theorem fault_many {W : Works} {ws : List (List Nat)} (h : fault W ws = 0) : ws.all isWord = true := by
  unfold fault at h
  cases q : ws.all isWord with
  | true => rfl
  | false => simp [q] at h
/-- what a line that is right leaves -/
structure WOk (W : Works) : Prop where
  holder : ∀ p, W.holder = some p → 1 ≤ p.1 ∧ p.1 ≤ 30 ∧ p.2 ≤ p.1
  retorts : ∀ n, W.retorts = some n → 1 ≤ n ∧ n ≤ 3
  leak : ∀ n, W.leak = some n → n ≤ 5
  clen : W.charge.length ≤ 3
  cval : ∀ x ∈ W.charge, x ≤ 20
  ulen : W.uses.length ≤ 8
  uval : ∀ u ∈ W.uses, u.rate ≤ 20 ∧ u.lo ≤ 23 ∧ u.hi ≤ 23
theorem wok0 : WOk {} := ⟨by simp, by simp, by simp, by simp, by simp, by simp, by simp⟩
theorem hasForm_len {k : Kw} {ws : List (List Nat)} (h : hasForm k ws = true) : match k with
    | .holder => ws.length = 2
    | .retorts => ws.length = 1
    | .leak => ws.length = 1
    | .charge => ws ≠ []
    | .use => ws.length = 4 := by
  unfold hasForm at h
  cases k with
  | use =>
    simp at h
    exact h.1
  | holder =>
    simp at h
    exact h.2
  | retorts =>
    simp at h
    exact h.2
  | leak =>
    simp at h
    exact h.2
  | charge =>
    simp at h
    exact h.2
/-- what is known where there's no fault -/
structure FineOf (W : Works) (ws : List (List Nat)) (k : Kw) : Prop where
  tl : told (ws.headD []) = some k
  form : hasForm k (ws.drop 1) = true
  there : isThere W k (ws.drop 1) = false
  many : tooMany W k (ws.drop 1) = false
  within : areWithin k (numbersOf (ws.drop (1 + if k = .use then 1 else 0))) = true
theorem fine_of {W : Works} {ws : List (List Nat)} (h : fault W ws = 0) : ∃ k, FineOf W ws k := by
  have ha := fault_many h
  unfold fault at h
  simp only [ha, Bool.not_true, Bool.false_eq_true, if_false] at h
  cases ht : told (ws.headD []) with
  | none => rw [ht] at h; simp at h
  | some k =>
    rw [ht] at h
    refine ⟨k, ht, ?_, ?_, ?_, ?_⟩
    · cases q : hasForm k (ws.drop 1) with
      | true => rfl
      | false =>
        simp only [q] at h
        simp at h
    · cases q : isThere W k (ws.drop 1) with
      | false => rfl
      | true =>
        simp only [q] at h
        split at h
        · cases h
        · simp at h
    · cases q : tooMany W k (ws.drop 1) with
      | false => rfl
      | true =>
        simp only [q] at h
        split at h
        · cases h
        · split at h
          · cases h
          · simp at h
    · cases q : areWithin k (numbersOf (ws.drop (1 + if k = .use then 1 else 0))) with
      | true => rfl
      | false =>
        simp only [q] at h
        split at h
        · cases h
        · split at h
          · cases h
          · split at h
            · cases h
            · simp at h
theorem wok_take {W : Works} {ws : List (List Nat)} (hW : WOk W) (h : fault W ws = 0) : WOk (takeW W ws) := by
  obtain ⟨k, F⟩ := fine_of h
  have hl := hasForm_len F.form
  unfold takeW
  rw [F.tl]
  cases k with
  | holder =>
    have hw : areWithin .holder (numbersOf (ws.drop 1)) = true := F.within
    simp only [areWithin, inB, Bool.and_eq_true, decide_eq_true_eq] at hw
    exact ⟨fun p hp => by cases hp; exact ⟨hw.1.1, hw.1.2, hw.2⟩, hW.retorts, hW.leak, hW.clen, hW.cval, hW.ulen, hW.uval⟩
  | retorts =>
    have hw : areWithin .retorts (numbersOf (ws.drop 1)) = true := F.within
    simp only [areWithin, inB, Bool.and_eq_true, decide_eq_true_eq] at hw
    exact ⟨hW.holder, fun p hp => by cases hp; exact hw, hW.leak, hW.clen, hW.cval, hW.ulen, hW.uval⟩
  | leak =>
    have hw : areWithin .leak (numbersOf (ws.drop 1)) = true := F.within
    simp only [areWithin, inB, Bool.and_eq_true, decide_eq_true_eq] at hw
    exact ⟨hW.holder, hW.retorts, fun p hp => by cases hp; exact hw, hW.clen, hW.cval, hW.ulen, hW.uval⟩
  | charge =>
    have hm := F.many
    have hw : areWithin .charge (numbersOf (ws.drop 1)) = true := F.within
    have hm' : (ws.drop 1).length ≤ 3 := by
      simp [tooMany] at hm
      simp
      omega
    have hw' := List.all_eq_true.mp (show (numbersOf (ws.drop 1)).all (fun x => decide (x ≤ 20)) = true from hw)
    exact ⟨hW.holder, hW.retorts, hW.leak, by show (numbersOf (ws.drop 1)).length ≤ 3; unfold numbersOf; rw [List.length_map]; exact hm', fun x hx => of_decide_eq_true (hw' x hx), hW.ulen, hW.uval⟩
  | use =>
    have hm := F.many
    simp [tooMany] at hm
    have hu := hW.ulen
    have hw : areWithin .use (numbersOf (ws.drop 2)) = true := F.within
    refine ⟨hW.holder, hW.retorts, hW.leak, hW.clen, hW.cval, ?_, ?_⟩
    · simp
      omega
    · intro u hx
      simp only [List.mem_append, List.mem_singleton] at hx
      rcases hx with hx | hx
      · exact hW.uval u hx
      · subst hx
        have e : numbersOf (ws.drop 2) = (numbersOf (ws.drop 1)).drop 1 := by
          simp [numbersOf, List.map_drop]
        rw [e] at hw
        simp only [areWithin, inB, Bool.and_eq_true, decide_eq_true_eq] at hw
        simp at hw ⊢
        exact ⟨hw.1.2, hw.2.1, hw.2.2⟩
theorem read_rd : ∀ (rows : List (List Nat)) (W : Works) (n : Nat), WOk W → readFrom W n rows = rd W n rows
  | [], W, n, hW => by
    unfold readFrom rd
    cases h1 : W.holder <;> cases h2 : W.retorts <;> cases h3 : W.charge <;> simp [onceOf, h1, h2, h3]
  | row :: r, W, n, hW => by
    unfold readFrom rd
    by_cases h1 : row.head? = some 35
    · have : row.headD 0 = 35 := by
        cases row with
        | nil => simp at h1
        | cons a b => simpa using h1
      rw [if_pos h1, if_pos (Or.inr this)]
      exact read_rd r W (n + 1) hW
    · rw [if_neg h1, toks_words (row.length + 1) row (Nat.lt_succ_self _)]
      by_cases h2 : words row = []
      · rw [h2]
        simp only [List.all_nil, if_true, List.map_nil, true_or]
        exact read_rd r W (n + 1) hW
      · have h3 : ¬ (words row = [] ∨ row.headD 0 = 35) := by
          rintro (z | z)
          · exact h2 z
          · cases row with
            | nil => exact h2 words_nil
            | cons a b => exact h1 (by simpa using z)
        rw [if_neg h3]
        by_cases h4 : (words row).all isWord = true
        · rw [if_pos h4]
          have hp := put_fault h2 (fun w hw => words_ne hw) h4 hW.ulen
          have hne : (words row).map tokOf ≠ [] := by simpa using h2
          generalize ht : (words row).map tokOf = t at hp hne
          cases t with
          | nil => exact absurd rfl hne
          | cons t0 tr =>
            simp only [hp]
            by_cases h5 : fault W (words row) = 0
            · rw [if_pos h5, if_pos h5]
              exact read_rd r _ (n + 1) (wok_take hW h5)
            · rw [if_neg h5, if_neg h5]
        · rw [if_neg h4]
          have h5 : fault W (words row) = 1 := by
            unfold fault
            simp [h4]
          rw [h5]
          rfl
theorem read_is (t : List Nat) : Mu14.read t = rd {} 1 (parts 10 t) := by
  unfold Mu14.read
  rw [lines_parts]
  exact read_rd _ _ _ wok0
/-- works that are whole -/
structure Whole (W : Works) : Prop extends WOk W where
  h1 : W.holder.isSome = true
  h2 : W.retorts.isSome = true
  h3 : W.charge ≠ []
theorem rd_whole : ∀ (rows : List (List Nat)) (W X : Works) (n : Nat), WOk W → rd W n rows = .ok X → Whole X
  | [], W, X, n, hW, h => by
    unfold rd at h
    split at h
    · rename_i hc
      cases h
      simp only [Bool.and_eq_true] at hc
      refine ⟨hW, ?_, ?_, ?_⟩
      · simpa [onceOf] using hc.1
      · simpa [onceOf] using hc.2.1
      · intro e
        have := hc.2.2
        simp [onceOf, e] at this
    · cases h
  | row :: r, W, X, n, hW, h => by
    unfold rd at h
    split at h
    · exact rd_whole r W X (n + 1) hW h
    · split at h
      · rename_i h5
        exact rd_whole r _ X (n + 1) (wok_take hW h5) h
      · cases h
theorem read_whole {t : List Nat} {W : Works} (h : Mu14.read t = .ok W) : Whole W := rd_whole _ _ _ _ wok0 ((read_is t).symm.trans h)
end G

/-! An hour: what the program tells of it, and that it is the specification's hour. -/
namespace G
open Mu14
structure Tld where
  hours : Nat
  held : Nat
  left : List Nat
  given : Nat
  burnt : Nat
  leaked : Nat
  blown : Nat
  short : Nat
def hourT (W : Works) (hours held : Nat) (left : List Nat) (k : Nat) : Tld :=
  let b := charged W.charge.length k left
  let m := total (b.map (gives W))
  let w := wanted W hours
  let x := held + m
  let u := min w x
  let e := min (leakOf W) (x - u)
  let z := x - u - e
  let hl := min z (cap W)
  ⟨hours + 1, hl, b.map (fun n => n - 1), m, u, e, z - hl, w - u⟩
theorem charged_nil (L k : Nat) : charged L k [] = [] := by cases k <;> rfl
theorem charged_zero (L : Nat) (l : List Nat) : charged L 0 l = l := by cases l <;> rfl
theorem charged_hit (L k : Nat) (l : List Nat) : charged L (k + 1) (0 :: l) = L :: charged L k l := rfl
theorem charged_miss (L k n : Nat) (l : List Nat) (h : n ≠ 0) : charged L k (n :: l) = n :: charged L k l := by
  cases k with
  | zero => rw [charged_zero, charged_zero]
  | succ k =>
    cases n with
    | zero => exact absurd rfl h
    | succ n => rfl
theorem charged_len (L : Nat) : ∀ (l : List Nat) (k : Nat), (charged L k l).length = l.length
  | [], k => by rw [charged_nil]
  | n :: l, k => by
    cases k with
    | zero => rw [charged_zero]
    | succ k =>
      by_cases h : n = 0
      · subst h
        rw [charged_hit, List.length_cons, charged_len L l, List.length_cons]
      · rw [charged_miss _ _ _ _ h, List.length_cons, charged_len L l, List.length_cons]
theorem charged_le {L : Nat} : ∀ {l : List Nat} {k : Nat}, (∀ x ∈ l, x ≤ L) → ∀ x ∈ charged L k l, x ≤ L
  | [], k, _ => by rw [charged_nil]; simp
  | n :: l, k, h => by
    have hl : ∀ x ∈ l, x ≤ L := fun x hx => h x (List.mem_cons_of_mem _ hx)
    cases k with
    | zero => rw [charged_zero]; exact h
    | succ k =>
      by_cases hn : n = 0
      · subst hn
        rw [charged_hit]
        intro x hx
        rcases List.mem_cons.mp hx with z | z
        · omega
        · exact charged_le hl x z
      · rw [charged_miss _ _ _ _ hn]
        intro x hx
        rcases List.mem_cons.mp hx with z | z
        · rw [z]; exact h n List.mem_cons_self
        · exact charged_le hl x z
/-- how many are charged -/
theorem charged_count {L : Nat} (hL : L ≠ 0) : ∀ (l : List Nat) (k : Nat), k ≤ idle l → (((charged L k l).zip l).filter fun (p : Nat × Nat) => p.2 == 0 && p.1 != 0).length = k
  | [], k, h => by
    simp [idle] at h
    subst h
    rfl
  | n :: l, k, h => by
    cases k with
    | zero =>
      rw [charged_zero]
      have e : ∀ l : List Nat, ((l.zip l).filter fun (p : Nat × Nat) => p.2 == 0 && p.1 != 0) = [] := by
        intro l
        induction l with
        | nil => rfl
        | cons a r ih =>
          rw [List.zip_cons_cons, List.filter_cons, ih]
          cases a <;> simp
      rw [e]
      rfl
    | succ k =>
      by_cases hn : n = 0
      · subst hn
        have h' : k ≤ idle l := by
          simp [idle] at h ⊢
          omega
        rw [charged_hit, List.zip_cons_cons, List.filter_cons]
        simp [hL]
        simpa using charged_count hL l k h'
      · have h' : k + 1 ≤ idle l := by
          simpa [idle, List.filter_cons, hn] using h
        rw [charged_miss _ _ _ _ hn, List.zip_cons_cons, List.filter_cons]
        simp [hn]
        simpa using charged_count hL l (k + 1) h'
/-- the hour, by what is told of it -/
theorem hour_is {s : State} {k : Nat} (hk : k ≤ idle s.busy) (hL : s.works.charge ≠ []) : Mu14.hour s k =
    let T := hourT s.works s.hour s.level s.busy k
    { s with hour := T.hours, level := T.held, busy := T.left, made := s.made + T.given, burnt := s.burnt + T.burnt, leaked := s.leaked + T.leaked, lost := s.lost + T.blown, short := s.short + T.short, charges := s.charges + k } := by
  have hc := charged_count (L := s.works.charge.length) (by
    intro e
    exact hL (List.length_eq_zero_iff.mp e)) s.busy k hk
  unfold Mu14.hour hourT
  simp only
  have e1 : min (s.level + total ((charged s.works.charge.length k s.busy).map (gives s.works))) (wanted s.works s.hour) = min (wanted s.works s.hour) (s.level + total ((charged s.works.charge.length k s.busy).map (gives s.works))) := Nat.min_comm _ _
  rw [hc, e1]
  generalize total ((charged s.works.charge.length k s.busy).map (gives s.works)) = m
  generalize wanted s.works s.hour = w
  congr 1
  · rw [Nat.min_comm (leakOf s.works)]
  · rw [Nat.min_comm (leakOf s.works)]
  · rw [Nat.min_comm (leakOf s.works)]
    omega
/-- how a state may stand -/
structure SOk (s : State) : Prop where
  w : Whole s.works
  lvl : s.level ≤ cap s.works
  len : s.busy.length = s.works.retorts.getD 0
  busy : ∀ x ∈ s.busy, x ≤ s.works.charge.length
theorem sok_begun {W : Works} (h : Whole W) : SOk (begun W) := by
  obtain ⟨p, hp⟩ := Option.isSome_iff_exists.mp h.h1
  refine ⟨h, ?_, ?_, ?_⟩
  · show (W.holder.getD (0, 0)).2 ≤ (W.holder.getD (0, 0)).1
    rw [hp]
    exact (h.holder p hp).2.2
  · show (List.replicate (W.retorts.getD 0) 0).length = W.retorts.getD 0
    simp
  · intro x hx
    have hx' : x ∈ List.replicate (W.retorts.getD 0) 0 := hx
    have := (List.mem_replicate.mp hx').2
    omega
theorem hourT_held (W : Works) (a b : Nat) (l : List Nat) (k : Nat) : (hourT W a b l k).held ≤ cap W := Nat.min_le_right _ _
theorem sok_hour {s : State} {k : Nat} (h : SOk s) (hk : k ≤ idle s.busy) : SOk (Mu14.hour s k) := by
  rw [hour_is hk h.w.h3]
  refine ⟨h.w, hourT_held _ _ _ _ _, ?_, ?_⟩
  · show ((charged s.works.charge.length k s.busy).map fun n => n - 1).length = _
    rw [List.length_map, charged_len]
    exact h.len
  · intro x hx
    have hx' : x ∈ (charged s.works.charge.length k s.busy).map fun n => n - 1 := hx
    obtain ⟨y, hy, rfl⟩ := List.mem_map.mp hx'
    have := charged_le h.busy y hy
    show y - 1 ≤ s.works.charge.length
    omega
theorem idle_le (l : List Nat) : idle l ≤ l.length := List.length_filter_le _ _
theorem sok_len {s : State} (h : SOk s) : 1 ≤ s.busy.length ∧ s.busy.length ≤ 3 := by
  obtain ⟨p, hp⟩ := Option.isSome_iff_exists.mp h.w.h2
  have := h.w.retorts p hp
  rw [h.len, hp]
  exact this
end G

/-! Plans: the program's table of best plans is the specification's list. -/
namespace G
open Mu14
abbrev PKey := Nat × List Nat
abbrev PVal := Nat × Nat × List Nat
abbrev Tab := List (PKey × PVal)
def sortN (l : List Nat) : List Nat := l.mergeSort fun (a b : Nat) => decide (a ≤ b)
def lkp (t : Tab) (k : PKey) : Option PVal := (t.find? fun kv => decide (kv.1 = k)).map (·.2)
def putT (t : Tab) (k : PKey) (v : PVal) : Tab := if t.any (fun kv => decide (kv.1 = k)) then t.map (fun kv => if kv.1 = k then (kv.1, v) else kv) else t ++ [(k, v)]
/-- a plan is less: tuples in order -/
def ltV (a b : PVal) : Bool := decide (a.1 < b.1) || (decide (a.1 = b.1) && (decide (a.2.1 < b.2.1) || (decide (a.2.1 = b.2.1) && lexLess a.2.2 b.2.2)))
/-- whether a plan is to be kept -/
def isNew (one : PVal) (o : Option PVal) : Bool := match o with
  | none => true
  | some q => ltV one q
def contIn (W : Works) (hours : Nat) (kv : PKey × PVal) (found : Tab) (many : Nat) : Tab :=
  let t := hourT W hours kv.1.1 kv.1.2 many
  let one : PVal := (kv.2.1 + many, kv.2.2.1 + t.blown, kv.2.2.2 ++ [many])
  let after : PKey := (t.held, sortN t.left)
  if t.short = 0 ∧ isNew one (lkp found after) = true then putT found after one else found
def contOne (W : Works) (hours : Nat) (found : Tab) (kv : PKey × PVal) : Tab := (List.range (idle kv.1.2 + 1)).foldl (contIn W hours kv) found
def cont (W : Works) (hours : Nat) (known : Tab) : Tab := known.foldl (contOne W hours) []
def conts (W : Works) (hours : Nat) : Nat → Tab → Tab
  | 0, t => t
  | n + 1, t => conts W (hours + 1) n (cont W hours t)
/-! ### a state's retorts in any order -/
theorem charged_perm (L : Nat) {l l' : List Nat} (h : l.Perm l') : ∀ k, (charged L k l).Perm (charged L k l') := by
  induction h with
  | nil => intro k; exact List.Perm.refl _
  | cons x _ ih =>
    intro k
    cases k with
    | zero =>
      rw [charged_zero, charged_zero]
      have := ih 0
      rw [charged_zero, charged_zero] at this
      exact this.cons x
    | succ k =>
      by_cases hx : x = 0
      · subst hx
        rw [charged_hit, charged_hit]
        exact (ih k).cons _
      · rw [charged_miss _ _ _ _ hx, charged_miss _ _ _ _ hx]
        exact (ih (k + 1)).cons _
  | swap x y l =>
    intro k
    cases k with
    | zero =>
      rw [charged_zero, charged_zero]
      exact List.Perm.swap x y l
    | succ k =>
      by_cases hx : x = 0
      · by_cases hy : y = 0
        · subst hx; subst hy
          exact List.Perm.refl _
        · subst hx
          rw [charged_miss _ _ _ _ hy, charged_hit, charged_hit, charged_miss _ _ _ _ hy]
          exact List.Perm.swap _ _ _
      · by_cases hy : y = 0
        · subst hy
          rw [charged_hit, charged_miss _ _ _ _ hx, charged_miss _ _ _ _ hx, charged_hit]
          exact List.Perm.swap _ _ _
        · rw [charged_miss _ _ _ _ hy, charged_miss _ _ _ _ hx, charged_miss _ _ _ _ hx, charged_miss _ _ _ _ hy]
          exact List.Perm.swap _ _ _
  | trans _ _ h1 h2 => intro k; exact (h1 k).trans (h2 k)
theorem total_acc : ∀ (l : List Nat) (a : Nat), l.foldl (fun (a b : Nat) => a + b) a = a + total l
  | [], a => rfl
  | x :: l, a => by
    unfold total
    rw [List.foldl_cons, List.foldl_cons, total_acc l, total_acc l (0 + x)]
    omega
theorem total_cons (x : Nat) (l : List Nat) : total (x :: l) = x + total l := by
  unfold total
  rw [List.foldl_cons, total_acc]
  unfold total
  omega
theorem total_perm {l l' : List Nat} (h : l.Perm l') : total l = total l' := by
  induction h with
  | nil => rfl
  | cons x _ ih => rw [total_cons, total_cons, ih]
  | swap x y l => rw [total_cons, total_cons, total_cons, total_cons]; omega
  | trans _ _ h1 h2 => exact h1.trans h2
theorem idle_perm {l l' : List Nat} (h : l.Perm l') : idle l = idle l' := by
  unfold idle
  exact (h.filter _).length_eq
theorem sortN_perm (l : List Nat) : (sortN l).Perm l := List.mergeSort_perm l _
theorem sortN_sorted (l : List Nat) : (sortN l).Pairwise (· ≤ ·) := by
  have h := List.pairwise_mergeSort (le := fun (a b : Nat) => decide (a ≤ b)) (fun a b c h1 h2 => by simp at h1 h2 ⊢; omega) (fun a b => by simp; omega) l
  exact h.imp fun h => by simpa using h
theorem sorted_unique : ∀ {l l' : List Nat}, l.Perm l' → l.Pairwise (· ≤ ·) → l'.Pairwise (· ≤ ·) → l = l' := by
  intro l l' h h1 h2
  exact h.eq_of_pairwise (le := fun a b => a ≤ b) (fun a b _ _ ha hb => Nat.le_antisymm ha hb) h1 h2
theorem sortN_eq {l l' : List Nat} (h : l.Perm l') : sortN l = sortN l' := sorted_unique (((sortN_perm l).trans h).trans (sortN_perm l').symm) (sortN_sorted l) (sortN_sorted l')
theorem sortN_is {l m : List Nat} (h : m.Perm l) (hs : m.Pairwise (· ≤ ·)) : m = sortN l := sorted_unique (h.trans (sortN_perm l).symm) hs (sortN_sorted l)
/-- two orders of the retorts: the hour tells the same -/
theorem hourT_perm (W : Works) (a b : Nat) {l l' : List Nat} (h : l.Perm l') (k : Nat) : (hourT W a b l k).held = (hourT W a b l' k).held ∧ (hourT W a b l k).blown = (hourT W a b l' k).blown ∧ (hourT W a b l k).short = (hourT W a b l' k).short ∧ (hourT W a b l k).left.Perm (hourT W a b l' k).left := by
  have e := total_perm ((charged_perm W.charge.length h k).map (gives W))
  unfold hourT
  simp only [e]
  exact ⟨trivial, trivial, trivial, (charged_perm W.charge.length h k).map _⟩
/-! ### the table and the list -/
def toKV (s0 : State) (p : Plan) : PKey × PVal := ((p.2.level, sortN p.2.busy), (p.2.charges - s0.charges, p.2.lost - s0.lost, p.1))
structure POk (s0 : State) (n : Nat) (p : Plan) : Prop where
  ok : SOk p.2
  wk : p.2.works = s0.works
  hr : p.2.hour = s0.hour + n
  ch : s0.charges ≤ p.2.charges
  lo : s0.lost ≤ p.2.lost
  len : p.1.length = n
theorem shape_key (s0 : State) (p q : Plan) : (shape p.2 == shape q.2) = decide ((toKV s0 p).1 = (toKV s0 q).1) := by
  unfold shape toKV sortN
  by_cases h : p.2.level = q.2.level
  · by_cases h2 : (p.2.busy.mergeSort fun (a b : Nat) => decide (a ≤ b)) = (q.2.busy.mergeSort fun (a b : Nat) => decide (a ≤ b))
    · simp [h, h2]
    · simp [h, h2]
  · simp [h]
theorem better_lt {s0 : State} {n m : Nat} {p q : Plan} (hp : POk s0 n p) (hq : POk s0 m q) : betterPlan p q = ltV (toKV s0 p).2 (toKV s0 q).2 := by
  have a1 := hp.ch
  have a2 := hq.ch
  have b1 := hp.lo
  have b2 := hq.lo
  unfold betterPlan ltV toKV
  simp only
  have e1 : decide (p.2.charges < q.2.charges) = decide (p.2.charges - s0.charges < q.2.charges - s0.charges) := by
    apply decide_eq_decide.mpr; omega
  have e2 : (p.2.charges == q.2.charges) = decide (p.2.charges - s0.charges = q.2.charges - s0.charges) := by
    rw [Bool.eq_iff_iff]; simp; omega
  have e3 : decide (p.2.lost < q.2.lost) = decide (p.2.lost - s0.lost < q.2.lost - s0.lost) := by
    apply decide_eq_decide.mpr; omega
  have e4 : (p.2.lost == q.2.lost) = decide (p.2.lost - s0.lost = q.2.lost - s0.lost) := by
    rw [Bool.eq_iff_iff]; simp; omega
  rw [e1, e2, e3, e4]
theorem lkp_keep {s0 : State} {n : Nat} : ∀ (m : List Plan) (p : Plan), lkp (m.map (toKV s0)) (toKV s0 p).1 = (m.find? fun q => shape q.2 == shape p.2).map fun q => (toKV s0 q).2
  | [], p => rfl
  | q :: m, p => by
    have ih := lkp_keep (s0 := s0) (n := n) m p
    unfold lkp at ih ⊢
    rw [List.map_cons, List.find?_cons, List.find?_cons, shape_key s0 q p]
    by_cases h : (toKV s0 q).1 = (toKV s0 p).1
    · simp [h]
    · simp only [h, decide_false]
      exact ih
def keysNd (s0 : State) (m : List Plan) : Prop := (m.map fun q => (toKV s0 q).1).Nodup
theorem any_none {s0 : State} {m : List Plan} {k : PKey} (h : lkp (m.map (toKV s0)) k = none) : (m.map (toKV s0)).any (fun kv => decide (kv.1 = k)) = false := by
  unfold lkp at h
  rw [Option.map_eq_none_iff, List.find?_eq_none] at h
  rw [List.any_eq_false]
  exact h
/-- the place of a key -/
theorem set_map {s0 : State} {p : Plan} : ∀ (m : List Plan) (i : Nat) (q : Plan), keysNd s0 m → m[i]? = some q → (toKV s0 q).1 = (toKV s0 p).1 →
    (m.map (toKV s0)).map (fun kv => if kv.1 = (toKV s0 p).1 then (kv.1, (toKV s0 p).2) else kv) = (m.set i p).map (toKV s0)
  | [], i, q, _, h, _ => by simp at h
  | r :: m, 0, q, hn, h, he => by
    have e : r = q := by simpa using h
    subst e
    have hn' : (toKV s0 r).1 ∉ m.map (fun q => (toKV s0 q).1) := (List.nodup_cons.mp hn).1
    rw [List.map_cons, List.map_cons, List.set_cons_zero, List.map_cons, if_pos he]
    congr 1
    · rw [he]
    · rw [List.map_map]
      refine List.map_congr_left fun x hx => ?_
      have : (toKV s0 x).1 ≠ (toKV s0 p).1 := fun z => hn' (List.mem_map.mpr ⟨x, hx, z.trans he.symm⟩)
      simp [this]
  | r :: m, i + 1, q, hn, h, he => by
    have h' : m[i]? = some q := by simpa using h
    have hn' := List.nodup_cons.mp hn
    have hne : (toKV s0 r).1 ≠ (toKV s0 p).1 := fun z => hn'.1 (List.mem_map.mpr ⟨q, List.mem_of_getElem? h', he.trans z.symm⟩)
    rw [List.map_cons, List.map_cons, List.set_cons_succ, List.map_cons, if_neg hne, set_map m i q hn'.2 h' he]
theorem any_some {s0 : State} {m : List Plan} {q p : Plan} (h : q ∈ m) (he : (toKV s0 q).1 = (toKV s0 p).1) : (m.map (toKV s0)).any (fun kv => decide (kv.1 = (toKV s0 p).1)) = true :=
  List.any_eq_true.mpr ⟨_, List.mem_map.mpr ⟨q, h, rfl⟩, decide_eq_true he⟩
/-- one plan more -/
theorem keep_put {s0 : State} {n : Nat} {m : List Plan} {p : Plan} (hm : ∀ q ∈ m, POk s0 n q) (hp : POk s0 n p) (hn : keysNd s0 m) :
    (keep m p).map (toKV s0) = if isNew (toKV s0 p).2 (lkp (m.map (toKV s0)) (toKV s0 p).1) = true then putT (m.map (toKV s0)) (toKV s0 p).1 (toKV s0 p).2 else m.map (toKV s0) := by
  have hl := lkp_keep (s0 := s0) (n := n) m p
  unfold keep
  cases hf : m.findIdx? fun q => shape q.2 == shape p.2 with
  | none =>
    have h0 : (m.find? fun q => shape q.2 == shape p.2) = none := by
      rw [List.find?_eq_none]
      rw [List.findIdx?_eq_none_iff] at hf
      intro x hx
      have := hf x hx
      simp [this]
    rw [hl, h0]
    simp only [Option.map_none, isNew, if_true]
    unfold putT
    rw [any_none (by rw [hl, h0]; rfl)]
    simp
  | some i =>
    obtain ⟨hi, h1, h2⟩ := List.findIdx?_eq_some_iff_getElem.mp hf
    have hq : m[i]? = some m[i] := List.getElem?_eq_getElem hi
    have h0 : (m.find? fun q => shape q.2 == shape p.2) = some m[i] := by
      rw [List.find?_eq_some_iff_getElem]
      exact ⟨h1, i, hi, rfl, fun j hj => by simpa using h2 j hj⟩
    have hk : (toKV s0 m[i]).1 = (toKV s0 p).1 := by
      rw [shape_key s0] at h1
      exact of_decide_eq_true h1
    rw [hl, h0]
    simp only [hq]
    show _ = if ltV (toKV s0 p).2 (toKV s0 m[i]).2 = true then putT (m.map (toKV s0)) (toKV s0 p).1 (toKV s0 p).2 else m.map (toKV s0)
    rw [better_lt hp (hm _ (List.getElem_mem hi))]
    by_cases hb : ltV (toKV s0 p).2 (toKV s0 m[i]).2 = true
    · rw [if_pos hb, if_pos hb]
      unfold putT
      rw [any_some (List.getElem_mem hi) hk]
      simp only [if_true]
      exact (set_map m i _ hn hq hk).symm
    · rw [if_neg hb, if_neg hb]
theorem keep_ok {s0 : State} {n : Nat} {m : List Plan} {p : Plan} (hm : ∀ q ∈ m, POk s0 n q) (hp : POk s0 n p) (hn : keysNd s0 m) : (∀ q ∈ keep m p, POk s0 n q) ∧ keysNd s0 (keep m p) := by
  unfold keep
  cases hf : m.findIdx? fun q => shape q.2 == shape p.2 with
  | none =>
    refine ⟨fun q hq => ?_, ?_⟩
    · rcases List.mem_append.mp hq with h | h
      · exact hm q h
      · rw [List.mem_singleton.mp h]; exact hp
    · unfold keysNd
      rw [List.map_append, List.nodup_append]
      refine ⟨hn, by simp, fun a ha b hb => ?_⟩
      obtain ⟨x, hx, rfl⟩ := List.mem_map.mp ha
      have : b = (toKV s0 p).1 := by simpa using hb
      subst this
      rw [List.findIdx?_eq_none_iff] at hf
      have := hf x hx
      rw [shape_key s0] at this
      exact of_decide_eq_false this
  | some i =>
    obtain ⟨hi, h1, h2⟩ := List.findIdx?_eq_some_iff_getElem.mp hf
    have hq : m[i]? = some m[i] := List.getElem?_eq_getElem hi
    have hk : (toKV s0 m[i]).1 = (toKV s0 p).1 := by
      rw [shape_key s0] at h1
      exact of_decide_eq_true h1
    simp only [hq]
    by_cases hb : betterPlan p m[i] = true
    · rw [if_pos hb]
      refine ⟨fun q hq => ?_, ?_⟩
      · rcases List.mem_or_eq_of_mem_set hq with h | h
        · exact hm q h
        · rw [h]; exact hp
      · unfold keysNd
        have e : (m.set i p).map (fun q => (toKV s0 q).1) = m.map fun q => (toKV s0 q).1 := by
          rw [List.map_set]
          rw [← hk]
          apply List.ext_getElem?
          intro j
          by_cases hj : i = j
          · subst hj
            simp [hi]
          · simp [hj]
        rw [e]
        exact hn
    · rw [if_neg hb]
      exact ⟨hm, hn⟩
/-- one hour more by k charges -/
theorem hour_pok {s0 : State} {n : Nat} {p : Plan} {k : Nat} (hp : POk s0 n p) (hk : k ≤ idle p.2.busy) : POk s0 (n + 1) (p.1 ++ [k], Mu14.hour p.2 k) := by
  have ok := sok_hour hp.ok hk
  have e := hour_is hk hp.ok.w.h3
  refine ⟨ok, ?_, ?_, ?_, ?_, ?_⟩
  · show (Mu14.hour p.2 k).works = _
    rw [e]; exact hp.wk
  · show (Mu14.hour p.2 k).hour = _
    rw [e]
    show p.2.hour + 1 = _
    rw [hp.hr]; omega
  · show _ ≤ (Mu14.hour p.2 k).charges
    rw [e]
    have := hp.ch
    show _ ≤ p.2.charges + k
    omega
  · show _ ≤ (Mu14.hour p.2 k).lost
    rw [e]
    have := hp.lo
    exact Nat.le_trans this (Nat.le_add_right _ _)
  · show (p.1 ++ [k]).length = _
    rw [List.length_append, hp.len]; rfl
theorem hour_kv {s0 : State} {n : Nat} {p : Plan} {k : Nat} (hp : POk s0 n p) (hk : k ≤ idle p.2.busy) :
    toKV s0 (p.1 ++ [k], Mu14.hour p.2 k) = (((hourT s0.works (s0.hour + n) p.2.level (sortN p.2.busy) k).held, sortN (hourT s0.works (s0.hour + n) p.2.level (sortN p.2.busy) k).left),
      ((toKV s0 p).2.1 + k, (toKV s0 p).2.2.1 + (hourT s0.works (s0.hour + n) p.2.level (sortN p.2.busy) k).blown, p.1 ++ [k])) := by
  have e := hour_is hk hp.ok.w.h3
  obtain ⟨h1, h2, h3, h4⟩ := hourT_perm s0.works (s0.hour + n) p.2.level (sortN_perm p.2.busy) k
  rw [h1, h2, sortN_eq h4]
  unfold toKV
  simp only
  rw [e, hp.wk, hp.hr]
  have a1 := hp.ch
  have a2 := hp.lo
  simp only [Prod.mk.injEq, true_and, and_true]
  exact ⟨by omega, by omega⟩
theorem hour_short {s0 : State} {n : Nat} {p : Plan} {k : Nat} (hp : POk s0 n p) (hk : k ≤ idle p.2.busy) :
    ((Mu14.hour p.2 k).short = p.2.short) ↔ (hourT s0.works (s0.hour + n) p.2.level (sortN p.2.busy) k).short = 0 := by
  have e := hour_is hk hp.ok.w.h3
  obtain ⟨h1, h2, h3, h4⟩ := hourT_perm s0.works (s0.hour + n) p.2.level (sortN_perm p.2.busy) k
  rw [h3, e, ← hp.wk, ← hp.hr]
  show p.2.short + (hourT p.2.works p.2.hour p.2.level p.2.busy k).short = p.2.short ↔ _
  omega
theorem onward_in {s0 : State} {n : Nat} {p : Plan} (hp : POk s0 n p) : ∀ (ks : List Nat) (m : List Plan), (∀ k ∈ ks, k ≤ idle p.2.busy) → (∀ q ∈ m, POk s0 (n + 1) q) → keysNd s0 m →
    let R := ks.foldl (fun (m : List Plan) (k : Nat) => let u := Mu14.hour p.2 k
      if u.short = p.2.short then keep m (p.1 ++ [k], u) else m) m
    R.map (toKV s0) = ks.foldl (contIn s0.works (s0.hour + n) (toKV s0 p)) (m.map (toKV s0)) ∧ (∀ q ∈ R, POk s0 (n + 1) q) ∧ keysNd s0 R
  | [], m, _, hm, hn => ⟨rfl, hm, hn⟩
  | k :: ks, m, hk, hm, hn => by
    have hk0 : k ≤ idle p.2.busy := hk k List.mem_cons_self
    have hks : ∀ k ∈ ks, k ≤ idle p.2.busy := fun x hx => hk x (List.mem_cons_of_mem _ hx)
    have hpk := hour_pok hp hk0
    have step : (if (Mu14.hour p.2 k).short = p.2.short then keep m (p.1 ++ [k], Mu14.hour p.2 k) else m).map (toKV s0) = contIn s0.works (s0.hour + n) (toKV s0 p) (m.map (toKV s0)) k ∧
        (∀ q ∈ (if (Mu14.hour p.2 k).short = p.2.short then keep m (p.1 ++ [k], Mu14.hour p.2 k) else m), POk s0 (n + 1) q) ∧ keysNd s0 (if (Mu14.hour p.2 k).short = p.2.short then keep m (p.1 ++ [k], Mu14.hour p.2 k) else m) := by
      have hs := hour_short hp hk0
      have hkv := hour_kv hp hk0
      by_cases h : (Mu14.hour p.2 k).short = p.2.short
      · rw [if_pos h]
        have h0 := hs.mp h
        obtain ⟨k1, k2⟩ := keep_ok hm hpk hn
        refine ⟨?_, k1, k2⟩
        rw [keep_put hm hpk hn, hkv]
        unfold contIn
        have e1 : (toKV s0 p).1.1 = p.2.level := rfl
        have e2 : (toKV s0 p).1.2 = sortN p.2.busy := rfl
        have e3 : (toKV s0 p).2.2.2 = p.1 := rfl
        simp only [e1, e2, e3, h0, true_and]
      · rw [if_neg h]
        refine ⟨?_, hm, hn⟩
        unfold contIn
        have h0 : ¬ (hourT s0.works (s0.hour + n) (toKV s0 p).1.1 (toKV s0 p).1.2 k).short = 0 := fun z => h (hs.mpr z)
        simp only [h0, false_and, if_false]
    obtain ⟨s1, s2, s3⟩ := step
    have ih := onward_in hp ks _ hks s2 s3
    rw [s1] at ih
    exact ih
theorem onward_is {s0 : State} {n : Nat} : ∀ (l m : List Plan), (∀ q ∈ l, POk s0 n q) → (∀ q ∈ m, POk s0 (n + 1) q) → keysNd s0 m →
    let R := l.foldl (fun (m : List Plan) (p : Plan) => (List.range (idle p.2.busy + 1)).foldl (fun (m : List Plan) (k : Nat) => let u := Mu14.hour p.2 k
      if u.short = p.2.short then keep m (p.1 ++ [k], u) else m) m) m
    R.map (toKV s0) = (l.map (toKV s0)).foldl (contOne s0.works (s0.hour + n)) (m.map (toKV s0)) ∧ (∀ q ∈ R, POk s0 (n + 1) q) ∧ keysNd s0 R
  | [], m, _, hm, hn => ⟨rfl, hm, hn⟩
  | p :: l, m, hl, hm, hn => by
    have hp := hl p List.mem_cons_self
    obtain ⟨s1, s2, s3⟩ := onward_in hp (List.range (idle p.2.busy + 1)) m (fun k hk => by
      have := List.mem_range.mp hk
      omega) hm hn
    have ih := onward_is l _ (fun q hq => hl q (List.mem_cons_of_mem _ hq)) s2 s3
    simp only [List.foldl_cons, List.map_cons]
    have e : contOne s0.works (s0.hour + n) (m.map (toKV s0)) (toKV s0 p) = (List.range (idle p.2.busy + 1)).foldl (contIn s0.works (s0.hour + n) (toKV s0 p)) (m.map (toKV s0)) := by
      unfold contOne
      have : idle (toKV s0 p).1.2 = idle p.2.busy := idle_perm (sortN_perm p.2.busy)
      rw [this]
    rw [e, ← s1]
    exact ih
theorem plans_is {s0 : State} : ∀ (k n : Nat) (l : List Plan), (∀ q ∈ l, POk s0 n q) → keysNd s0 l → (plans k l).map (toKV s0) = conts s0.works (s0.hour + n) k (l.map (toKV s0)) ∧ (∀ q ∈ plans k l, POk s0 (n + k) q) ∧ keysNd s0 (plans k l)
  | 0, n, l, hl, hn => ⟨rfl, hl, hn⟩
  | k + 1, n, l, hl, hn => by
    obtain ⟨s1, s2, s3⟩ := onward_is l [] hl (by simp) (by unfold keysNd; simp)
    have ih := plans_is k (n + 1) (onward l) s2 s3
    unfold plans conts
    obtain ⟨i1, i2, i3⟩ := ih
    refine ⟨?_, fun q hq => ?_, i3⟩
    · rw [i1]
      congr 1
    · have := i2 q hq
      rw [Nat.add_assoc, Nat.add_comm 1 k] at this
      exact this
end G

namespace G
open Mu14
/-! ### the table keeps small -/
theorem lkp_at : ∀ {t : Tab} {i : Nat} {kv : PKey × PVal}, (t.map (·.1)).Nodup → t[i]? = some kv → lkp t kv.1 = some kv.2
  | [], i, kv, _, h => by simp at h
  | x :: t, 0, kv, _, h => by
    have e : x = kv := by simpa using h
    subst e
    simp [lkp]
  | x :: t, i + 1, kv, hn, h => by
    have h' : t[i]? = some kv := by simpa using h
    have hn' := List.nodup_cons.mp (by simpa using hn : (x.1 :: t.map (·.1)).Nodup)
    have hne : x.1 ≠ kv.1 := fun z => hn'.1 (List.mem_map.mpr ⟨kv, List.mem_of_getElem? h', z.symm⟩)
    have e : lkp (x :: t) kv.1 = lkp t kv.1 := by simp [lkp, hne]
    rw [e]
    exact lkp_at hn'.2 h'
def KOk (W : Works) (r : Nat) (k : PKey) : Prop := k.1 ≤ cap W ∧ k.2.length = r ∧ ∀ x ∈ k.2, x ≤ W.charge.length
structure TOk (W : Works) (r n : Nat) (t : Tab) : Prop where
  nd : (t.map (·.1)).Nodup
  ks : ∀ kv ∈ t, KOk W r kv.1
  vs : ∀ kv ∈ t, kv.2.2.2.length = n
theorem tok_nil (W : Works) (r n : Nat) : TOk W r n [] := ⟨by simp, by simp, by simp⟩
theorem keys_map (t : Tab) (k : PKey) (v : PVal) : ((t.map fun kv => if kv.1 = k then (kv.1, v) else kv).map (·.1)) = t.map (·.1) := by
  rw [List.map_map]
  refine List.map_congr_left fun x _ => ?_
  show (if x.1 = k then (x.1, v) else x).1 = x.1
  split <;> rfl
theorem tok_put {W : Works} {r n : Nat} {t : Tab} {k : PKey} {v : PVal} (h : TOk W r n t) (hk : KOk W r k) (hv : v.2.2.length = n) : TOk W r n (putT t k v) := by
  unfold putT
  by_cases c : t.any (fun kv => decide (kv.1 = k)) = true
  · rw [if_pos c]
    refine ⟨by rw [keys_map]; exact h.nd, fun kv hm => ?_, fun kv hm => ?_⟩
    · obtain ⟨x, hx, rfl⟩ := List.mem_map.mp hm
      by_cases e : x.1 = k
      · rw [if_pos e]
        exact h.ks x hx
      · rw [if_neg e]
        exact h.ks x hx
    · obtain ⟨x, hx, rfl⟩ := List.mem_map.mp hm
      by_cases e : x.1 = k
      · rw [if_pos e]
        exact hv
      · rw [if_neg e]
        exact h.vs x hx
  · rw [if_neg c]
    refine ⟨?_, fun kv hm => ?_, fun kv hm => ?_⟩
    · rw [List.map_append, List.nodup_append]
      refine ⟨h.nd, by simp, fun a ha b hb => ?_⟩
      have hb' : b = k := by simpa using hb
      subst hb'
      obtain ⟨x, hx, rfl⟩ := List.mem_map.mp ha
      intro e
      exact c (List.any_eq_true.mpr ⟨x, hx, decide_eq_true e⟩)
    · rcases List.mem_append.mp hm with z | z
      · exact h.ks kv z
      · rw [List.mem_singleton.mp z]
        exact hk
    · rcases List.mem_append.mp hm with z | z
      · exact h.vs kv z
      · rw [List.mem_singleton.mp z]
        exact hv
theorem kok_hour {W : Works} {r hours k : Nat} {key : PKey} (h : KOk W r key) : KOk W r ((hourT W hours key.1 key.2 k).held, sortN (hourT W hours key.1 key.2 k).left) := by
  refine ⟨hourT_held _ _ _ _ _, ?_, fun x hx => ?_⟩
  · show (sortN _).length = r
    rw [(sortN_perm _).length_eq]
    show ((charged W.charge.length k key.2).map _).length = r
    rw [List.length_map, charged_len]
    exact h.2.1
  · have hx' := (sortN_perm _).mem_iff.mp hx
    have hx2 : x ∈ (charged W.charge.length k key.2).map fun n => n - 1 := hx'
    obtain ⟨y, hy, rfl⟩ := List.mem_map.mp hx2
    have := charged_le h.2.2 y hy
    omega
theorem tok_in {W : Works} {r n hours k : Nat} {kv : PKey × PVal} {found : Tab} (hk : KOk W r kv.1) (hv : kv.2.2.2.length = n) (h : TOk W r (n + 1) found) : TOk W r (n + 1) (contIn W hours kv found k) := by
  have hp : TOk W r (n + 1) (putT found ((hourT W hours kv.1.1 kv.1.2 k).held, sortN (hourT W hours kv.1.1 kv.1.2 k).left) (kv.2.1 + k, kv.2.2.1 + (hourT W hours kv.1.1 kv.1.2 k).blown, kv.2.2.2 ++ [k])) :=
    tok_put h (kok_hour hk) (by simp [hv])
  unfold contIn
  simp only
  split
  · exact hp
  · exact h
theorem tok_ins {W : Works} {r n hours : Nat} {kv : PKey × PVal} (hk : KOk W r kv.1) (hv : kv.2.2.2.length = n) : ∀ (ks : List Nat) (found : Tab), TOk W r (n + 1) found → TOk W r (n + 1) (ks.foldl (contIn W hours kv) found)
  | [], found, h => h
  | k :: ks, found, h => tok_ins hk hv ks _ (tok_in hk hv h)
theorem tok_ones {W : Works} {r n hours : Nat} : ∀ (t found : Tab), (∀ kv ∈ t, KOk W r kv.1 ∧ kv.2.2.2.length = n) → TOk W r (n + 1) found → TOk W r (n + 1) (t.foldl (contOne W hours) found)
  | [], found, _, h => h
  | kv :: t, found, hs, h => tok_ones t _ (fun x hx => hs x (List.mem_cons_of_mem _ hx)) (tok_ins (hs kv List.mem_cons_self).1 (hs kv List.mem_cons_self).2 _ _ h)
theorem tok_cont {W : Works} {r n hours : Nat} {t : Tab} (h : TOk W r n t) : TOk W r (n + 1) (cont W hours t) := tok_ones t [] (fun kv hm => ⟨h.ks kv hm, h.vs kv hm⟩) (tok_nil W r (n + 1))
theorem tok_take {W : Works} {r n hours i : Nat} {t : Tab} (h : TOk W r n t) : TOk W r (n + 1) ((t.take i).foldl (contOne W hours) []) := tok_ones (t.take i) [] (fun kv hm => ⟨h.ks kv (List.mem_of_mem_take hm), h.vs kv (List.mem_of_mem_take hm)⟩) (tok_nil W r (n + 1))
/-- a row of numbers that differ, each below n -/
theorem nodup_lt : ∀ (n : Nat) (l : List Nat), l.Nodup → (∀ x ∈ l, x < n) → l.length ≤ n
  | 0, l, _, h => by
    cases l with
    | nil => simp
    | cons x r => exact absurd (h x List.mem_cons_self) (by omega)
  | n + 1, l, hn, h => by
    by_cases hm : n ∈ l
    · have e := List.length_erase_of_mem hm
      have ih := nodup_lt n (l.erase n) (hn.erase n) (fun x hx => by
        have h1 := h x (List.mem_of_mem_erase hx)
        have h2 : x ≠ n := fun z => by
          subst z
          exact (hn.not_mem_erase) hx
        omega)
      omega
    · have ih := nodup_lt n l hn (fun x hx => by
        have h1 := h x hx
        have h2 : x ≠ n := fun z => hm (z ▸ hx)
        omega)
      omega
def dig : List Nat → Nat
  | [] => 0
  | x :: r => x + 4 * dig r
theorem dig_inj : ∀ {a b : List Nat}, a.length = b.length → (∀ x ∈ a, x ≤ 3) → (∀ x ∈ b, x ≤ 3) → dig a = dig b → a = b
  | [], [], _, _, _, _ => rfl
  | [], _ :: _, h, _, _, _ => by simp at h
  | _ :: _, [], h, _, _, _ => by simp at h
  | x :: a, y :: b, h, ha, hb, e => by
    have hx := ha x List.mem_cons_self
    have hy := hb y List.mem_cons_self
    unfold dig at e
    have e1 : x = y := by omega
    have e2 : dig a = dig b := by omega
    rw [e1, dig_inj (by simpa using h) (fun z hz => ha z (List.mem_cons_of_mem _ hz)) (fun z hz => hb z (List.mem_cons_of_mem _ hz)) e2]
theorem dig_lt {a : List Nat} (h : a.length ≤ 3) (ha : ∀ x ∈ a, x ≤ 3) : dig a < 64 := by
  match a, h, ha with
  | [], _, _ => decide
  | [x], _, ha =>
    have := ha x (by simp)
    simp [dig]
    omega
  | [x, y], _, ha =>
    have := ha x (by simp)
    have := ha y (by simp)
    simp [dig]
    omega
  | [x, y, z], _, ha =>
    have := ha x (by simp)
    have := ha y (by simp)
    have := ha z (by simp)
    simp [dig]
    omega
theorem nodup_map {α β : Type} {f : α → β} : ∀ {l : List α}, l.Nodup → (∀ a ∈ l, ∀ b ∈ l, f a = f b → a = b) → (l.map f).Nodup
  | [], _, _ => by simp
  | x :: l, hn, h => by
    obtain ⟨h1, h2⟩ := List.nodup_cons.mp hn
    rw [List.map_cons, List.nodup_cons]
    refine ⟨fun hm => ?_, nodup_map h2 fun a ha b hb => h a (List.mem_cons_of_mem _ ha) b (List.mem_cons_of_mem _ hb)⟩
    obtain ⟨y, hy, e⟩ := List.mem_map.mp hm
    have := h y (List.mem_cons_of_mem _ hy) x List.mem_cons_self e
    subst this
    exact h1 hy
theorem tab_small {W : Works} {r n : Nat} {t : Tab} (h : TOk W r n t) (hc : cap W ≤ 30) (hl : W.charge.length ≤ 3) (hr : r ≤ 3) : t.length ≤ 1984 := by
  have key : ((t.map (·.1)).map fun (k : PKey) => k.1 * 64 + dig k.2).length ≤ 1984 := by
    have ok : ∀ k ∈ t.map (·.1), KOk W r k := fun k hk => by
      obtain ⟨kv, hm, rfl⟩ := List.mem_map.mp hk
      exact h.ks kv hm
    refine nodup_lt 1984 _ (nodup_map h.nd fun a ha b hb e => ?_) (fun x hx => ?_)
    · have oa := ok a ha
      have ob := ok b hb
      have la : dig a.2 < 64 := dig_lt (by rw [oa.2.1]; exact hr) fun x hx => Nat.le_trans (oa.2.2 x hx) hl
      have lb : dig b.2 < 64 := dig_lt (by rw [ob.2.1]; exact hr) fun x hx => Nat.le_trans (ob.2.2 x hx) hl
      have e' : a.1 * 64 + dig a.2 = b.1 * 64 + dig b.2 := e
      have e1 : a.1 = b.1 := by omega
      have e2 : dig a.2 = dig b.2 := by omega
      have e3 := dig_inj (by rw [oa.2.1, ob.2.1]) (fun x hx => Nat.le_trans (oa.2.2 x hx) hl) (fun x hx => Nat.le_trans (ob.2.2 x hx) hl) e2
      exact Prod.ext e1 e3
    · obtain ⟨k, hk, rfl⟩ := List.mem_map.mp hx
      have ok' := ok k hk
      have lk : dig k.2 < 64 := dig_lt (by rw [ok'.2.1]; exact hr) fun x hx => Nat.le_trans (ok'.2.2 x hx) hl
      have := ok'.1
      show k.1 * 64 + dig k.2 < 1984
      omega
  simpa using key
/-! ### the best plan -/
theorem lex_irr : ∀ a : List Nat, lexLess a a = false
  | [] => rfl
  | x :: a => by simp [lexLess, lex_irr a]
theorem lex_tr : ∀ {a b c : List Nat}, lexLess a b = true → lexLess b c = true → lexLess a c = true
  | [], _, _, h, _ => by simp [lexLess] at h
  | _ :: _, [], _, h, _ => by simp [lexLess] at h
  | _ :: _, _ :: _, [], _, h => by simp [lexLess] at h
  | x :: a, y :: b, z :: c, h1, h2 => by
    simp [lexLess] at h1 h2 ⊢
    rcases h1 with h1 | ⟨h1, h1'⟩
    · rcases h2 with h2 | ⟨h2, h2'⟩
      · left; omega
      · left; omega
    · rcases h2 with h2 | ⟨h2, h2'⟩
      · left; omega
      · right
        exact ⟨by omega, lex_tr h1' h2'⟩
theorem lex_tot : ∀ {a b : List Nat}, a.length = b.length → lexLess a b = false → lexLess b a = false → a = b
  | [], [], _, _, _ => rfl
  | [], _ :: _, h, _, _ => by simp at h
  | _ :: _, [], h, _, _ => by simp at h
  | x :: a, y :: b, h, h1, h2 => by
    simp [lexLess] at h1 h2
    have e : x = y := by omega
    subst e
    have e2 : a = b := lex_tot (by simpa using h) (by simpa using h1) (by simpa using h2)
    rw [e2]
theorem ltV_irr (a : PVal) : ltV a a = false := by simp [ltV, lex_irr]
theorem ltV_tr {a b c : PVal} (h1 : ltV a b = true) (h2 : ltV b c = true) : ltV a c = true := by
  simp [ltV] at h1 h2 ⊢
  rcases h1 with h1 | ⟨h1, h1'⟩
  · rcases h2 with h2 | ⟨h2, h2'⟩
    · left; omega
    · left; omega
  · rcases h2 with h2 | ⟨h2, h2'⟩
    · left; omega
    · right
      refine ⟨by omega, ?_⟩
      rcases h1' with h1' | ⟨h1', h1''⟩
      · rcases h2' with h2' | ⟨h2', h2''⟩
        · left; omega
        · left; omega
      · rcases h2' with h2' | ⟨h2', h2''⟩
        · left; omega
        · right
          exact ⟨by omega, lex_tr h1'' h2''⟩
theorem ltV_tot {a b : PVal} (hl : a.2.2.length = b.2.2.length) (h1 : ltV a b = false) (h2 : ltV b a = false) : a = b := by
  obtain ⟨a1, a2, a3⟩ := a
  obtain ⟨b1, b2, b3⟩ := b
  simp [ltV] at h1 h2
  have e1 : a1 = b1 := by omega
  subst e1
  have h1' := h1.2
  have h2' := h2.2
  simp at h1' h2'
  have e2 : a2 = b2 := by omega
  subst e2
  simp at h1' h2'
  have e3 : a3 = b3 := lex_tot hl h1' h2'
  rw [e3]
def bstep (m : Option Plan) (p : Plan) : Option Plan := match m with
  | none => some p
  | some q => if betterPlan p q = true then some p else some q
theorem best_fold {s0 : State} {n : Nat} : ∀ (l : List Plan) (q : Plan), (∀ p ∈ l, POk s0 n p) → POk s0 n q → ∃ p, l.foldl bstep (some q) = some p ∧ POk s0 n p ∧ (p = q ∨ p ∈ l) ∧ betterPlan q p = false ∧ ∀ x ∈ l, betterPlan x p = false
  | [], q, _, hq => ⟨q, rfl, hq, .inl rfl, by rw [better_lt hq hq]; exact ltV_irr _, by simp⟩
  | y :: l, q, hl, hq => by
    have hy := hl y List.mem_cons_self
    have hl' : ∀ p ∈ l, POk s0 n p := fun p hp => hl p (List.mem_cons_of_mem _ hp)
    rw [List.foldl_cons]
    by_cases c : betterPlan y q = true
    · have e : bstep (some q) y = some y := if_pos c
      rw [e]
      obtain ⟨p, h1, h2, h3, h4, h5⟩ := best_fold l y hl' hy
      refine ⟨p, h1, h2, ?_, ?_, ?_⟩
      · rcases h3 with z | z
        · right; rw [z]; exact List.mem_cons_self
        · right; exact List.mem_cons_of_mem _ z
      · cases d : betterPlan q p with
        | false => rfl
        | true =>
          rw [better_lt hq h2] at d
          rw [better_lt hy hq] at c
          rw [better_lt hy h2] at h4
          rw [ltV_tr c d] at h4
          cases h4
      · intro x hx
        rcases List.mem_cons.mp hx with z | z
        · rw [z]; exact h4
        · exact h5 x z
    · have e : bstep (some q) y = some q := if_neg c
      rw [e]
      obtain ⟨p, h1, h2, h3, h4, h5⟩ := best_fold l q hl' hq
      refine ⟨p, h1, h2, ?_, h4, ?_⟩
      · rcases h3 with z | z
        · left; exact z
        · right; exact List.mem_cons_of_mem _ z
      · intro x hx
        rcases List.mem_cons.mp hx with z | z
        · subst z
          cases d : betterPlan x p with
          | false => rfl
          | true =>
            rw [better_lt hy h2] at d
            have c' : betterPlan x q = false := by simpa using c
            rw [better_lt hy hq] at c'
            rw [better_lt hq h2] at h4
            -- p is not above q, x is below p, x is not below q
            have hlen : (toKV s0 q).2.2.2.length = (toKV s0 p).2.2.2.length := by
              show q.1.length = p.1.length
              rw [hq.len, h2.len]
            cases d2 : ltV (toKV s0 p).2 (toKV s0 q).2 with
            | true =>
              rw [ltV_tr d d2] at c'
              cases c'
            | false =>
              have := ltV_tot hlen h4 d2
              rw [this] at c'
              rw [c'] at d
              cases d
        · exact h5 x z
theorem best_eq (s : State) (n : Nat) : best s n = (plans n [([], s)]).foldl bstep none := rfl
theorem pok0 {s : State} (h : SOk s) : POk s 0 ([], s) := ⟨h, rfl, rfl, Nat.le_refl _, Nat.le_refl _, rfl⟩
def tab0 (s : State) : Tab := [((s.level, sortN s.busy), (0, 0, []))]
theorem tab0_is (s : State) : [(([] : List Nat), s)].map (toKV s) = tab0 s := by
  simp [tab0, toKV]
theorem plans_tab {s : State} (h : SOk s) (n : Nat) : (plans n [([], s)]).map (toKV s) = conts s.works s.hour n (tab0 s) ∧ ∀ q ∈ plans n [([], s)], POk s n q := by
  obtain ⟨h1, h2, _⟩ := plans_is (s0 := s) n 0 [([], s)] (fun q hq => by rw [List.mem_singleton.mp hq]; exact pok0 h) (by unfold keysNd; simp)
  rw [tab0_is] at h1
  refine ⟨h1, fun q hq => ?_⟩
  have := h2 q hq
  rwa [Nat.zero_add] at this
/-- the first of the plans in order is the best one -/
theorem best_head {s : State} (h : SOk s) {n : Nat} {qs : List PVal} (hp : qs.Perm ((conts s.works s.hour n (tab0 s)).map (·.2))) (hs : qs.Pairwise (fun a b => ltV b a = false)) :
    match qs with
    | [] => best s n = none
    | v :: _ => ∃ p, best s n = some p ∧ POk s n p ∧ v = (toKV s p).2 := by
  obtain ⟨e1, ok⟩ := plans_tab h n
  rw [← e1, List.map_map] at hp
  rw [best_eq]
  cases hl : plans n [([], s)] with
  | nil =>
    rw [hl] at hp
    have : qs = [] := by simpa using hp
    subst this
    rfl
  | cons p0 l =>
    rw [hl] at hp ok
    cases qs with
    | nil =>
      have := hp.length_eq
      simp at this
    | cons v r =>
      obtain ⟨p, b1, b2, b3, b4, b5⟩ := best_fold l p0 (fun p hp => ok p (List.mem_cons_of_mem _ hp)) (ok p0 List.mem_cons_self)
      refine ⟨p, b1, b2, ?_⟩
      have hpm : p ∈ p0 :: l := by
        rcases b3 with z | z
        · rw [z]; exact List.mem_cons_self
        · exact List.mem_cons_of_mem _ z
      have hmin : ∀ x ∈ p0 :: l, betterPlan x p = false := fun x hx => by
        rcases List.mem_cons.mp hx with z | z
        · rw [z]; exact b4
        · exact b5 x z
      obtain ⟨x, hx, hv⟩ := List.mem_map.mp (hp.mem_iff.mp List.mem_cons_self)
      have hxp := hmin x hx
      rw [better_lt (ok x hx) b2] at hxp
      have hv' : v = (toKV s x).2 := hv.symm
      rw [hv']
      have hmem : (toKV s p).2 ∈ v :: r := hp.mem_iff.mpr (List.mem_map.mpr ⟨p, hpm, rfl⟩)
      have hlen : (toKV s x).2.2.2.length = (toKV s p).2.2.2.length := by
        show x.1.length = p.1.length
        rw [(ok x hx).len, b2.len]
      rcases List.mem_cons.mp hmem with z | z
      · rw [z, hv']
      · have := (List.pairwise_cons.mp hs).1 _ z
        rw [hv'] at this
        exact ltV_tot hlen hxp this
theorem conts_snoc (W : Works) : ∀ (n hours : Nat) (t : Tab), conts W hours (n + 1) t = cont W (hours + n) (conts W hours n t)
  | 0, hours, t => rfl
  | n + 1, hours, t => by
    show conts W (hours + 1) (n + 1) (cont W hours t) = cont W (hours + (n + 1)) (conts W (hours + 1) n (cont W hours t))
    rw [conts_snoc W n (hours + 1), Nat.add_assoc, Nat.add_comm 1 n]
theorem tok_conts {W : Works} {r : Nat} : ∀ (n m hours : Nat) (t : Tab), TOk W r m t → TOk W r (m + n) (conts W hours n t)
  | 0, m, hours, t, h => h
  | n + 1, m, hours, t, h => by
    have := tok_conts n (m + 1) (hours + 1) (cont W hours t) (tok_cont h)
    rw [Nat.add_assoc, Nat.add_comm 1 n] at this
    exact this
theorem tok_tab0 {s : State} (h : SOk s) : TOk s.works s.busy.length 0 (tab0 s) := by
  refine ⟨by simp [tab0], fun kv hm => ?_, fun kv hm => ?_⟩
  · rw [List.mem_singleton.mp hm]
    exact ⟨h.lvl, (sortN_perm _).length_eq, fun x hx => h.busy x ((sortN_perm _).mem_iff.mp hx)⟩
  · rw [List.mem_singleton.mp hm]
    rfl
theorem cap_le {W : Works} (h : Whole W) : cap W ≤ 30 := by
  obtain ⟨p, hp⟩ := Option.isSome_iff_exists.mp h.h1
  unfold cap
  rw [hp]
  exact (h.holder p hp).2.1
end G


namespace G
open Mu14
/-! ### a line that's right, taken -/
theorem nums_len (ws : List (List Nat)) : (numbersOf ws).length = ws.length := List.length_map _
theorem take_once {W : Works} {ws : List (List Nat)} {j : Kw} (F : FineOf W ws j) (hj : j ≠ .use) : (∀ k, k ≠ Kw.use → onceOf (takeW W ws) k = if k = j then some (numbersOf (ws.drop 1)) else onceOf W k) ∧ (takeW W ws).uses = W.uses := by
  have hl := hasForm_len F.form
  have hnl := nums_len (ws.drop 1)
  unfold takeW
  rw [F.tl]
  cases j with
  | use => exact absurd rfl hj
  | holder =>
    have hl' : (ws.drop 1).length = 2 := hl
    generalize hN : numbersOf (ws.drop 1) = n at hnl
    match n, hnl.trans hl' with
    | [a, b], _ =>
      refine ⟨fun k hk => ?_, rfl⟩
      cases k <;> first | rfl | exact absurd rfl hk
  | retorts =>
    have hl' : (ws.drop 1).length = 1 := hl
    generalize hN : numbersOf (ws.drop 1) = n at hnl
    match n, hnl.trans hl' with
    | [a], _ =>
      refine ⟨fun k hk => ?_, rfl⟩
      cases k <;> first | rfl | exact absurd rfl hk
  | leak =>
    have hl' : (ws.drop 1).length = 1 := hl
    generalize hN : numbersOf (ws.drop 1) = n at hnl
    match n, hnl.trans hl' with
    | [a], _ =>
      refine ⟨fun k hk => ?_, rfl⟩
      cases k <;> first | rfl | exact absurd rfl hk
  | charge =>
    have hl' : ws.drop 1 ≠ [] := hl
    have hne : numbersOf (ws.drop 1) ≠ [] := fun z => hl' (List.length_eq_zero_iff.mp (by rw [← hnl, z]; rfl))
    refine ⟨fun k hk => ?_, rfl⟩
    cases k with
    | charge =>
      show (if (numbersOf (ws.drop 1)).isEmpty then none else some (numbersOf (ws.drop 1))) = _
      rw [if_neg (by simpa using hne)]
      rfl
    | use => exact absurd rfl hk
    | holder => rfl
    | retorts => rfl
    | leak => rfl
theorem take_use {W : Works} {ws : List (List Nat)} (F : FineOf W ws .use) : ∃ a n0 n1 n2, ws[1]? = some a ∧ numbersOf (ws.drop 2) = [n0, n1, n2] ∧ takeW W ws = { W with uses := W.uses ++ [⟨a, n0, n1, n2⟩] } := by
  have hl : (ws.drop 1).length = 4 := hasForm_len F.form
  rw [List.length_drop] at hl
  match ws, hl with
  | [x, a, b, c, e], _ =>
    refine ⟨a, numberOf b, numberOf c, numberOf e, rfl, rfl, ?_⟩
    unfold takeW
    rw [F.tl]
    rfl
theorem num_digits {w : List Nat} (h : isNumber w = true) : w.all digit = true := by
  unfold isNumber at h
  cases q : w.all digit with
  | true => rfl
  | false => simp [q] at h
/-- what is numbered behind the word is made of digits -/
theorem form_digits {k : Kw} {ws : List (List Nat)} (h : hasForm k (ws.drop 1) = true) : ∀ w ∈ ws.drop (1 + if k = .use then 1 else 0), w.all digit = true := by
  unfold hasForm at h
  by_cases hk : k = .use
  · rw [if_pos hk] at h
    rw [if_pos hk]
    simp only [Bool.and_eq_true] at h
    have h2 := List.all_eq_true.mp h.2.2
    rw [List.drop_drop] at h2
    intro w hw
    exact num_digits (h2 w hw)
  · rw [if_neg hk] at h
    rw [if_neg hk]
    by_cases hn : (ws.drop 1).all isNumber = true
    · intro w hw
      exact num_digits (List.all_eq_true.mp hn w hw)
    · have hn' : (ws.drop 1).all isNumber = false := by simpa using hn
      rw [hn'] at h
      cases h
theorem form_len {k : Kw} {ws : List (List Nat)} (h : hasForm k (ws.drop 1) = true) (hw : ws.length ≤ 2001) : match k with
    | .holder => (numbersOf (ws.drop (1 + if k = .use then 1 else 0))).length = 2
    | .retorts => (numbersOf (ws.drop (1 + if k = .use then 1 else 0))).length = 1
    | .leak => (numbersOf (ws.drop (1 + if k = .use then 1 else 0))).length = 1
    | .charge => (numbersOf (ws.drop (1 + if k = .use then 1 else 0))).length ≤ 2001
    | .use => (numbersOf (ws.drop (1 + if k = .use then 1 else 0))).length = 3 := by
  have hl := hasForm_len h
  rw [nums_len, List.length_drop]
  cases k with
  | holder =>
    have : (ws.drop 1).length = 2 := hl
    rw [List.length_drop] at this
    simpa using this
  | retorts =>
    have : (ws.drop 1).length = 1 := hl
    rw [List.length_drop] at this
    simpa using this
  | leak =>
    have : (ws.drop 1).length = 1 := hl
    rw [List.length_drop] at this
    simpa using this
  | charge =>
    show ws.length - _ ≤ 2001
    omega
  | use =>
    have : (ws.drop 1).length = 4 := hl
    rw [List.length_drop] at this
    show ws.length - (1 + 1) = 3
    omega
theorem form_use_ne {ws : List (List Nat)} (h : hasForm .use (ws.drop 1) = true) : ws.drop 1 ≠ [] := by
  have hl : (ws.drop 1).length = 4 := hasForm_len h
  intro z
  rw [z] at hl
  cases hl
end G

namespace G
open Mu14
/-- each charge finds so many empty retorts -/
def Fits : State → List Nat → Prop
  | _, [] => True
  | s, k :: l => k ≤ idle s.busy ∧ Fits (Mu14.hour s k) l
theorem hours_snoc : ∀ (l : List Nat) (s : State) (k : Nat), hours s (l ++ [k]) = Mu14.hour (hours s l) k
  | [], _, _ => rfl
  | a :: l, s, k => hours_snoc l (Mu14.hour s a) k
theorem fits_snoc : ∀ (l : List Nat) (s : State) (k : Nat), Fits s l → k ≤ idle (hours s l).busy → Fits s (l ++ [k])
  | [], _, _, _, h => ⟨h, trivial⟩
  | a :: l, s, k, ⟨h1, h2⟩, h => ⟨h1, fits_snoc l (Mu14.hour s a) k h2 h⟩
theorem fits_at : ∀ (l : List Nat) (s : State) (i k : Nat), Fits s l → l[i]? = some k → k ≤ idle (hours s (l.take i)).busy
  | [], _, i, k, _, h => by simp at h
  | a :: l, s, 0, k, ⟨h1, _⟩, h => by
    simp at h
    rw [← h]
    exact h1
  | a :: l, s, i + 1, k, ⟨_, h2⟩, h => fits_at l (Mu14.hour s a) i k h2 (by simpa using h)
def Led (s : State) (p : Plan) : Prop := Fits s p.1 ∧ p.2 = hours s p.1
theorem keep_mem {m : List Plan} {p q : Plan} (h : q ∈ keep m p) : q ∈ m ∨ q = p := by
  unfold keep at h
  split at h
  · split at h
    · split at h
      · rcases List.mem_or_eq_of_mem_set h with z | z
        · exact .inl z
        · exact .inr z
      · exact .inl h
    · exact .inl h
  · rcases List.mem_append.mp h with z | z
    · exact .inl z
    · exact .inr (List.mem_singleton.mp z)
theorem led_in {s : State} {p : Plan} (hp : Led s p) : ∀ (ks : List Nat) (m : List Plan), (∀ k ∈ ks, k ≤ idle p.2.busy) → (∀ q ∈ m, Led s q) →
    ∀ q ∈ ks.foldl (fun (m : List Plan) (k : Nat) => let u := Mu14.hour p.2 k
      if u.short = p.2.short then keep m (p.1 ++ [k], u) else m) m, Led s q
  | [], _, _, hm => hm
  | k :: ks, m, hk, hm => by
    rw [List.foldl_cons]
    refine led_in hp ks _ (fun j hj => hk j (List.mem_cons_of_mem _ hj)) ?_
    simp only
    split
    · intro q hq
      rcases keep_mem hq with z | z
      · exact hm q z
      · have h1 := hk k (List.mem_cons_self ..)
        rw [hp.2] at h1
        rw [z]
        refine ⟨fits_snoc _ _ _ hp.1 h1, ?_⟩
        show Mu14.hour p.2 k = hours s (p.1 ++ [k])
        rw [hours_snoc, ← hp.2]
    · exact hm
theorem led_on {s : State} : ∀ (l m : List Plan), (∀ q ∈ l, Led s q) → (∀ q ∈ m, Led s q) →
    ∀ q ∈ l.foldl (fun (m : List Plan) (p : Plan) => (List.range (idle p.2.busy + 1)).foldl (fun (m : List Plan) (k : Nat) => let u := Mu14.hour p.2 k
      if u.short = p.2.short then keep m (p.1 ++ [k], u) else m) m) m, Led s q
  | [], _, _, hm => hm
  | p :: l, m, hl, hm => by
    rw [List.foldl_cons]
    exact led_on l _ (fun q hq => hl q (List.mem_cons_of_mem _ hq)) (led_in (hl p (List.mem_cons_self ..)) _ m (fun k hk => by
      have := List.mem_range.mp hk
      omega) hm)
theorem led_plans {s : State} : ∀ (k : Nat) (l : List Plan), (∀ q ∈ l, Led s q) → ∀ q ∈ plans k l, Led s q
  | 0, _, h => h
  | k + 1, l, h => by
    unfold plans
    exact led_plans k _ (led_on l [] h (by simp))
theorem bstep_mem : ∀ (l : List Plan) (m : Option Plan) (p : Plan), l.foldl bstep m = some p → m = some p ∨ p ∈ l
  | [], _, _, h => .inl h
  | q :: l, m, p, h => by
    rw [List.foldl_cons] at h
    rcases bstep_mem l _ p h with z | z
    · unfold bstep at z
      split at z
      · right
        rw [← Option.some.inj z]
        exact List.mem_cons_self ..
      · split at z
        · right
          rw [← Option.some.inj z]
          exact List.mem_cons_self ..
        · exact .inl z
    · exact .inr (List.mem_cons_of_mem _ z)
theorem best_led {s : State} {n : Nat} {p : Plan} (h : best s n = some p) : Led s p := by
  rw [best_eq] at h
  rcases bstep_mem _ _ _ h with z | z
  · cases z
  · exact led_plans n _ (fun q hq => by
      rw [List.mem_singleton.mp hq]
      exact ⟨trivial, rfl⟩) p z
theorem sok_hours : ∀ (l : List Nat) (s : State), SOk s → Fits s l → SOk (hours s l)
  | [], _, h, _ => h
  | k :: l, s, h, ⟨h1, h2⟩ => sok_hours l (Mu14.hour s k) (sok_hour h h1) h2
/-- so many hours in which nothing is charged -/
def idleH (s : State) : Nat → State
  | 0 => s
  | k + 1 => Mu14.hour (idleH s k) 0
theorem sok_idle {s : State} (h : SOk s) : ∀ k, SOk (idleH s k)
  | 0 => h
  | k + 1 => sok_hour (sok_idle h k) (Nat.zero_le _)
theorem idle_works {s : State} : ∀ k, (idleH s k).works = s.works
  | 0 => rfl
  | k + 1 => idle_works k
theorem lasts_step (k : Nat) (s : State) : lasts (k + 1) s = if (Mu14.hour s 0).short = s.short then lasts k (Mu14.hour s 0) + 1 else 0 := rfl
theorem lasts_at {s : State} {n : Nat} : ∀ i, i ≤ n → (∀ j, j < i → (idleH s (j + 1)).short = (idleH s j).short) → lasts n s = i + lasts (n - i) (idleH s i)
  | 0, _, _ => by simp [idleH]
  | i + 1, hi, h => by
    rw [lasts_at i (by omega) (fun j hj => h j (by omega))]
    have e : n - i = (n - (i + 1)) + 1 := by omega
    have hs : (Mu14.hour (idleH s i) 0).short = (idleH s i).short := h i (Nat.lt_succ_self i)
    rw [e, lasts_step, if_pos hs]
    show i + (lasts (n - (i + 1)) (idleH s (i + 1)) + 1) = _
    omega
end G

namespace G
open PyFlat
/-! ### the calls as one list -/
def byN (c n : Nat) : Mu14.Call := if c = 1 then .hour n else if c = 4 then .wanted n else if c = 5 then .plan n else .follow n
def byC (c : Nat) : Mu14.Call := if c = 2 then .look else if c = 3 then .sums else .lasts
def withN (c : Nat) : Bool := decide (c = 1) || (decide (c = 4) || (decide (c = 5) || decide (c = 6)))
def callB (c n : Nat) : Mu14.Call := if withN c = true then byN c n else byC c
theorem calls_cons {f : Nat} {p : Int} {r : List Int} {raw : List (List (List Int))} (h : PyFlat.calls PyMu14.shape f (p :: r) = some raw) : ∃ f' c t cs, f = f' + 1 ∧ PyFlat.call PyMu14.shape (p :: r) = some (c, t) ∧ PyFlat.calls PyMu14.shape f' t = some cs ∧ raw = c :: cs := by
  cases f with
  | zero => cases h
  | succ f =>
    unfold PyFlat.calls at h
    split at h
    · cases h
    · rename_i c t hc
      split at h
      · cases h
      · rename_i cs hcs
        exact ⟨f, c, t, cs, rfl, hc, hcs, (Option.some.inj h).symm⟩
theorem calls_nil {f : Nat} {raw : List (List (List Int))} (h : PyFlat.calls PyMu14.shape f [] = some raw) : raw = [] := by
  unfold PyFlat.calls at h
  exact (Option.some.inj h).symm
theorem call_row {r : List Int} {c : List (List Int)} {t : List Int} (h : PyFlat.call PyMu14.shape (0 :: r) = some (c, t)) : ∃ n r', r = n :: r' ∧ 0 ≤ n ∧ n.toNat ≤ r'.length ∧ c = [[0], r'.take n.toNat] ∧ t = r'.drop n.toNat := by
  have e : PyMu14.shape 0 = some (0, 1) := by decide
  unfold PyFlat.call at h
  dsimp only at h
  rw [e] at h
  simp only [List.drop_zero, List.take_zero, Nat.not_lt_zero, if_false] at h
  cases r with
  | nil => simp [PyFlat.rows, PyFlat.row] at h
  | cons n r' =>
    simp only [PyFlat.rows, PyFlat.row] at h
    by_cases hc : 0 ≤ n ∧ n.toNat ≤ r'.length
    · rw [if_pos hc] at h
      simp only [Option.some.injEq, Prod.mk.injEq] at h
      exact ⟨n, r', rfl, hc.1, hc.2, h.1.symm, h.2.symm⟩
    · rw [if_neg hc] at h
      cases h
theorem call_num {p : Int} {r : List Int} {c : List (List Int)} {t : List Int} (hs : PyMu14.shape p = some (1, 0)) (h : PyFlat.call PyMu14.shape (p :: r) = some (c, t)) : ∃ a, r = a :: t ∧ c = [[p, a]] := by
  unfold PyFlat.call at h
  dsimp only at h
  rw [hs] at h
  cases r with
  | nil => simp at h
  | cons a r' =>
    simp [PyFlat.rows] at h
    exact ⟨a, by rw [h.2], h.1.symm⟩
theorem call_bare {p : Int} {r : List Int} {c : List (List Int)} {t : List Int} (hs : PyMu14.shape p = some (0, 0)) (h : PyFlat.call PyMu14.shape (p :: r) = some (c, t)) : r = t ∧ c = [[p]] := by
  unfold PyFlat.call at h
  dsimp only at h
  rw [hs] at h
  simp [PyFlat.rows] at h
  exact ⟨h.2, h.1.symm⟩
theorem call_none {p : Int} {r : List Int} {x : List (List Int) × List Int} (hs : PyMu14.shape p = none) (h : PyFlat.call PyMu14.shape (p :: r) = some x) : False := by
  unfold PyFlat.call at h
  dsimp only at h
  rw [hs] at h
  cases h
theorem shape_cases (p : Int) : p = 0 ∨ (p = 1 ∨ p = 4 ∨ p = 5 ∨ p = 6) ∨ (p = 2 ∨ p = 3 ∨ p = 7) ∨ PyMu14.shape p = none := by
  by_cases h0 : p = 0
  · exact .inl h0
  by_cases h1 : p = 1
  · exact .inr (.inl (.inl h1))
  by_cases h4 : p = 4
  · exact .inr (.inl (.inr (.inl h4)))
  by_cases h5 : p = 5
  · exact .inr (.inl (.inr (.inr (.inl h5))))
  by_cases h6 : p = 6
  · exact .inr (.inl (.inr (.inr (.inr h6))))
  by_cases h2 : p = 2
  · exact .inr (.inr (.inl (.inl h2)))
  by_cases h3 : p = 3
  · exact .inr (.inr (.inl (.inr (.inl h3))))
  by_cases h7 : p = 7
  · exact .inr (.inr (.inl (.inr (.inr h7))))
  · refine .inr (.inr (.inr ?_))
    unfold PyMu14.shape
    simp [h0, h1, h2, h3, h4, h5, h6, h7]
abbrev Raw := List (List (List Int))
/-- what one turn takes -/
inductive OneCall (f : Nat) : List Int → Raw → Prop
  | row (k : Nat) (r' : List Int) (txt : List Nat) (cs : Raw) (raw : Raw) : k ≤ r'.length → r'.take k = txt.map (fun (n : Nat) => (n : Int)) → txt.length ≤ 2000 → PyFlat.calls PyMu14.shape f (r'.drop k) = some cs → cs.all Mu14Neutral.asked1 = true → raw.length = cs.length + 1 →
      (∀ s, played Mu14Neutral.step s raw = (Mu14.step s (.read txt)).2 :: played Mu14Neutral.step (Mu14.step s (.read txt)).1 cs) → OneCall f (0 :: (k : Int) :: r') raw
  | num (c n : Nat) (t : List Int) (cs : Raw) (raw : Raw) : withN c = true → c ≠ 0 → PyFlat.calls PyMu14.shape f t = some cs → cs.all Mu14Neutral.asked1 = true → raw.length = cs.length + 1 →
      (∀ s, played Mu14Neutral.step s raw = (Mu14.step s (callB c n)).2 :: played Mu14Neutral.step (Mu14.step s (callB c n)).1 cs) → OneCall f ((c : Int) :: (n : Int) :: t) raw
  | bare (c : Nat) (t : List Int) (cs : Raw) (raw : Raw) : withN c = false → c ≠ 0 → PyFlat.calls PyMu14.shape f t = some cs → cs.all Mu14Neutral.asked1 = true → raw.length = cs.length + 1 →
      (∀ s, played Mu14Neutral.step s raw = (Mu14.step s (callB c 0)).2 :: played Mu14Neutral.step (Mu14.step s (callB c 0)).1 cs) → OneCall f ((c : Int) :: t) raw
theorem nat_of {z : Int} (h : 0 ≤ z) : z = ((z.toNat : Nat) : Int) := (Int.toNat_of_nonneg h).symm
theorem within_pos {z b : Int} (h : NeutralIO.within z 0 b = true) : 0 ≤ z := by
  unfold NeutralIO.within at h
  simp at h
  omega
theorem text_nats : ∀ {l : List Int}, (l.all fun (z : Int) => z == 10 || Mu14Neutral.seen z) = true → l = (Mu14Neutral.nats l).map (fun (n : Nat) => (n : Int))
  | [], _ => rfl
  | z :: l, h => by
    rw [List.all_cons, Bool.and_eq_true] at h
    have hz : 0 ≤ z := by
      have h1 := h.1
      unfold Mu14Neutral.seen NeutralIO.within at h1
      simp at h1
      omega
    unfold Mu14Neutral.nats
    rw [List.map_cons, List.map_cons, ← nat_of hz]
    congr 1
    exact text_nats h.2
theorem turn_of {f : Nat} {p : Int} {r : List Int} {raw : Raw} (h : PyFlat.calls PyMu14.shape f (p :: r) = some raw) (ha : raw.all Mu14Neutral.asked1 = true) : ∃ f', OneCall f' (p :: r) raw := by
  obtain ⟨f', c, t, cs, rfl, hc, hcs, rfl⟩ := calls_cons h
  rw [List.all_cons, Bool.and_eq_true] at ha
  obtain ⟨ha1, ha2⟩ := ha
  refine ⟨f', ?_⟩
  have len : (c :: cs).length = cs.length + 1 := rfl
  have play : ∀ {cl : Mu14.Call}, Mu14Neutral.callOf c = some cl → ∀ s, played Mu14Neutral.step s (c :: cs) = (Mu14.step s cl).2 :: played Mu14Neutral.step (Mu14.step s cl).1 cs := fun {cl} hcl s => by
    have e : Mu14Neutral.step s c = Mu14.step s cl := by
      unfold Mu14Neutral.step
      rw [hcl]
    show (Mu14Neutral.step s c).2 :: played Mu14Neutral.step (Mu14Neutral.step s c).1 cs = _
    rw [e]
  rcases shape_cases p with rfl | hp | hp | hp
  · obtain ⟨n, r', rfl, hn, hl, rfl, rfl⟩ := call_row hc
    have ht : Mu14Neutral.text (r'.take n.toNat) = true := ha1
    unfold Mu14Neutral.text at ht
    rw [Bool.and_eq_true] at ht
    have tn := text_nats ht.2
    have h2 : (Mu14Neutral.nats (r'.take n.toNat)).length ≤ 2000 := by
      unfold Mu14Neutral.nats
      rw [List.length_map]
      exact of_decide_eq_true ht.1
    have T := OneCall.row (f := f') n.toNat r' (Mu14Neutral.nats (r'.take n.toNat)) cs _ hl tn h2 hcs ha2 len (play rfl)
    rw [← nat_of hn] at T
    exact T
  · have hs : PyMu14.shape p = some (1, 0) := by rcases hp with rfl | rfl | rfl | rfl <;> decide
    obtain ⟨a, rfl, rfl⟩ := call_num hs hc
    have pos : 0 ≤ a := by rcases hp with rfl | rfl | rfl | rfl <;> exact within_pos ha1
    rcases hp with rfl | rfl | rfl | rfl
    · have T := OneCall.num (f := f') 1 a.toNat t cs _ rfl (by decide) hcs ha2 len (play rfl)
      rw [← nat_of pos] at T
      exact T
    · have T := OneCall.num (f := f') 4 a.toNat t cs _ rfl (by decide) hcs ha2 len (play rfl)
      rw [← nat_of pos] at T
      exact T
    · have T := OneCall.num (f := f') 5 a.toNat t cs _ rfl (by decide) hcs ha2 len (play rfl)
      rw [← nat_of pos] at T
      exact T
    · have T := OneCall.num (f := f') 6 a.toNat t cs _ rfl (by decide) hcs ha2 len (play rfl)
      rw [← nat_of pos] at T
      exact T
  · have hs : PyMu14.shape p = some (0, 0) := by rcases hp with rfl | rfl | rfl <;> decide
    obtain ⟨rfl, rfl⟩ := call_bare hs hc
    rcases hp with rfl | rfl | rfl
    · exact OneCall.bare (f := f') 2 r cs _ rfl (by decide) hcs ha2 len (play rfl)
    · exact OneCall.bare (f := f') 3 r cs _ rfl (by decide) hcs ha2 len (play rfl)
    · exact OneCall.bare (f := f') 7 r cs _ rfl (by decide) hcs ha2 len (play rfl)
  · exact (call_none hp hc).elim
theorem whole_id (c : List (List Int)) : PyMu14.whole c = c := by
  unfold PyMu14.whole
  split <;> rfl
theorem asked_is {l : List Int} (h : PyMu14.answers_asked l = true) : ∃ raw, PyFlat.calls PyMu14.shape l.length l = some raw ∧ raw.all Mu14Neutral.asked1 = true ∧ raw.length ≤ 60 ∧ PyMu14.answers l = PyFlat.told (played Mu14Neutral.step none raw) := by
  unfold PyMu14.answers_asked at h
  split at h
  · cases h
  · rename_i raw hr
    have e : raw.map PyMu14.whole = raw := by
      rw [show PyMu14.whole = id from funext whole_id, List.map_id]
    rw [e] at h
    simp only [Bool.and_eq_true] at h
    obtain ⟨⟨⟨⟨_, h2⟩, _⟩, h3⟩, _⟩ := h
    unfold Mu14Neutral.asked at h3
    simp only [Bool.and_eq_true] at h3
    refine ⟨raw, hr, h3.2.2, of_decide_eq_true h2, ?_⟩
    unfold PyMu14.answers PyMu14.calls
    rw [hr]
    simp only
    rw [e]
    rfl
theorem told_cons (a : List Int) (l : List (List Int)) : PyFlat.told (a :: l) = ((a.length : Int) :: a) ++ PyFlat.told l := rfl
/-! ### no answer is long -/
theorem ans_len {o : Mu14.Abs} {c : Mu14.Call} (h : ∀ s, o = some s → SOk s) : (Mu14.step o c).2.length ≤ 20 := by
  cases c with
  | read t =>
    have e : Mu14.step o (.read t) = match Mu14.read t with
      | .error x => (none, [-2, (x.1 : Int), (x.2 : Int)])
      | .ok W => (some (Mu14.begun W), [0, (W.uses.length : Int)]) := by cases o <;> rfl
    rw [e]
    cases Mu14.read t <;> simp
  | hour k =>
    cases o with
    | none => simp [Mu14.step]
    | some s =>
      show (if Mu14.idle s.busy < k then _ else _ : Mu14.Abs × Mu14.Ans).2.length ≤ 20
      split <;> simp [Mu14.nums]
  | look =>
    cases o with
    | none => simp [Mu14.step]
    | some s =>
      have := (sok_len (h s rfl)).2
      simp [Mu14.step, Mu14.nums]
      omega
  | sums => cases o <;> simp [Mu14.step, Mu14.nums]
  | wanted k =>
    cases o with
    | none => simp [Mu14.step]
    | some s =>
      show (if 23 < k then ([-1] : Mu14.Ans) else _).length ≤ 20
      split <;> simp
  | plan n =>
    cases o with
    | none => simp [Mu14.step]
    | some s =>
      show (if n = 0 ∨ 16 < n then ([-1] : Mu14.Ans) else match Mu14.best s n with
        | none => [-6]
        | some p => Mu14.nums ((p.2.charges - s.charges) :: (p.2.lost - s.lost) :: p.1)).length ≤ 20
      split
      · simp
      · rename_i hn
        cases hb : Mu14.best s n with
        | none => simp
        | some p =>
          have hp : POk s n p := by
            rw [best_eq] at hb
            rcases bstep_mem _ _ _ hb with z | z
            · cases z
            · exact (plans_tab (h s rfl) n).2 p z
          have := hp.len
          simp [Mu14.nums]
          omega
  | follow n =>
    cases o with
    | none => simp [Mu14.step]
    | some s =>
      show (if n = 0 ∨ 16 < n then ((some s : Mu14.Abs), ([-1] : Mu14.Ans)) else match Mu14.best s n with
        | none => ((some s : Mu14.Abs), ([-6] : Mu14.Ans))
        | some p => (some (Mu14.hours s p.1), Mu14.nums [(Mu14.hours s p.1).hour, (Mu14.hours s p.1).level])).2.length ≤ 20
      split
      · simp
      · cases Mu14.best s n <;> simp [Mu14.nums]
  | lasts => cases o <;> simp [Mu14.step]
end G


namespace G
open PySem PySem.Spec PyProof.Rows L2
/-! ### the text, by places -/
def top (i : Nat) : Stmt := PySem.Challenge.pw_gasholder_s01_answers.main.body.getD i (.Pass ⟨0, 0, 0, 0⟩)
abbrev s_Use_init : Stmt := inClass (top 2) 0
abbrev s_Use_does_burn : Stmt := inClass (top 2) 1
abbrev s_Works_init : Stmt := inClass (top 3) 0
abbrev s_Works_wanted : Stmt := inClass (top 3) 1
abbrev s_Works_given_by : Stmt := inClass (top 3) 2
abbrev s_Moment_init : Stmt := inClass (top 4) 0
abbrev s_Moment_empty : Stmt := inClass (top 4) 1
abbrev s_Told_init : Stmt := inClass (top 5) 0
abbrev s_Wrong_init : Stmt := inClass (top 40) 0
abbrev s_Builder_init : Stmt := inClass (top 50) 0
abbrev s_Builder_is_there : Stmt := inClass (top 50) 1
abbrev s_Builder_are_too_many : Stmt := inClass (top 50) 2
abbrev s_Builder_fault_of : Stmt := inClass (top 50) 3
abbrev s_Builder_take : Stmt := inClass (top 50) 4
abbrev s_Builder_made : Stmt := inClass (top 50) 5
abbrev s_Refused_init : Stmt := inClass (top 62) 0
abbrev s_Desk_init : Stmt := inClass (top 64) 0
abbrev s_Desk_read : Stmt := inClass (top 64) 1
abbrev s_Desk_passes : Stmt := inClass (top 64) 2
abbrev s_Desk_hour : Stmt := inClass (top 64) 3
abbrev s_Desk_look : Stmt := inClass (top 64) 4
abbrev s_Desk_wanted_in : Stmt := inClass (top 64) 5
abbrev s_Desk_best : Stmt := inClass (top 64) 6
abbrev s_Desk_plan : Stmt := inClass (top 64) 7
abbrev s_Desk_follow : Stmt := inClass (top 64) 8
abbrev s_Desk_lasts : Stmt := inClass (top 64) 9
abbrev s_Desk_told_by_number : Stmt := inClass (top 64) 10
abbrev s_Desk_told : Stmt := inClass (top 64) 11
abbrev s_Desk_answer : Stmt := inClass (top 64) 12
abbrev s_beginning : Stmt := top 6
abbrev s_charged : Stmt := top 7
abbrev s_hour_passed : Stmt := top 8
abbrev s_state_of : Stmt := top 10
abbrev s_continued : Stmt := top 11
abbrev s_best_plan : Stmt := top 12
abbrev s_parted : Stmt := top 41
abbrev s_is_name : Stmt := top 42
abbrev s_is_number : Stmt := top 43
abbrev s_number_of : Stmt := top 44
abbrev s_is_within : Stmt := top 45
abbrev s_is_of : Stmt := top 46
abbrev s_told_word : Stmt := top 47
abbrev s_has_form : Stmt := top 48
abbrev s_are_within : Stmt := top 49
abbrev s_read_works : Stmt := top 51
abbrev s_want : Stmt := top 63
abbrev s_answers : Stmt := top 65
/-- where the classes and defs stand -/
structure Ads where
  cUse : Addr
  cWorks : Addr
  cMoment : Addr
  cTold : Addr
  cWrong : Addr
  cBuilder : Addr
  cRefused : Addr
  cDesk : Addr
  m_Use_init : Addr
  m_Use_does_burn : Addr
  m_Works_init : Addr
  m_Works_wanted : Addr
  m_Works_given_by : Addr
  m_Moment_init : Addr
  m_Moment_empty : Addr
  m_Told_init : Addr
  m_Wrong_init : Addr
  m_Builder_init : Addr
  m_Builder_is_there : Addr
  m_Builder_are_too_many : Addr
  m_Builder_fault_of : Addr
  m_Builder_take : Addr
  m_Builder_made : Addr
  m_Refused_init : Addr
  m_Desk_init : Addr
  m_Desk_read : Addr
  m_Desk_passes : Addr
  m_Desk_hour : Addr
  m_Desk_look : Addr
  m_Desk_wanted_in : Addr
  m_Desk_best : Addr
  m_Desk_plan : Addr
  m_Desk_follow : Addr
  m_Desk_lasts : Addr
  m_Desk_told_by_number : Addr
  m_Desk_told : Addr
  m_Desk_answer : Addr
  f_beginning : Addr
  f_charged : Addr
  f_hour_passed : Addr
  f_state_of : Addr
  f_continued : Addr
  f_best_plan : Addr
  f_parted : Addr
  f_is_name : Addr
  f_is_number : Addr
  f_number_of : Addr
  f_is_within : Addr
  f_is_of : Addr
  f_told_word : Addr
  f_has_form : Addr
  f_are_within : Addr
  f_read_works : Addr
  f_want : Addr
  f_answers : Addr
  wWORDS : Addr
  wWITH : Addr
/-- a def of the text at f, how its arguments bind -/
def FnAt (K : PySem.W.Frag) (x qual : Str) (st : Stmt) (f : Addr) (ps : List Str) : Prop := ∃ fd, Fun K x qual st f fd ∧ Binds K fd ps []
/-- what the top has written -/
structure Txt (K : PySem.W.Frag) (mg : Str → Option Value) (d : Ads) : Prop where
  g_Use : mg "Use" = some (.ref d.cUse)
  cl_Use : Cls K d.cUse
  mk_Use : Mk K d.cUse d.m_Use_init
  na_Use_name : NoAttr K d.cUse "name"
  na_Use_many : NoAttr K d.cUse "many"
  na_Use_begin : NoAttr K d.cUse "begin"
  na_Use_end : NoAttr K d.cUse "end"
  fn_m_Use_init : FnAt K "__init__" "Use.__init__" s_Use_init d.m_Use_init ["self", "name", "many", "begin", "end"]
  me_Use_does_burn : Meth K d.cUse "does_burn" d.m_Use_does_burn
  fn_m_Use_does_burn : FnAt K "does_burn" "Use.does_burn" s_Use_does_burn d.m_Use_does_burn ["self", "hour"]
  g_Works : mg "Works" = some (.ref d.cWorks)
  cl_Works : Cls K d.cWorks
  mk_Works : Mk K d.cWorks d.m_Works_init
  na_Works_holds : NoAttr K d.cWorks "holds"
  na_Works_first : NoAttr K d.cWorks "first"
  na_Works_retorts : NoAttr K d.cWorks "retorts"
  na_Works_leak : NoAttr K d.cWorks "leak"
  na_Works_charge : NoAttr K d.cWorks "charge"
  na_Works_uses : NoAttr K d.cWorks "uses"
  fn_m_Works_init : FnAt K "__init__" "Works.__init__" s_Works_init d.m_Works_init ["self", "holds", "first", "retorts", "leak", "charge", "uses"]
  me_Works_wanted : Meth K d.cWorks "wanted" d.m_Works_wanted
  fn_m_Works_wanted : FnAt K "wanted" "Works.wanted" s_Works_wanted d.m_Works_wanted ["self", "hour"]
  me_Works_given_by : Meth K d.cWorks "given_by" d.m_Works_given_by
  fn_m_Works_given_by : FnAt K "given_by" "Works.given_by" s_Works_given_by d.m_Works_given_by ["self", "left"]
  g_Moment : mg "Moment" = some (.ref d.cMoment)
  cl_Moment : Cls K d.cMoment
  mk_Moment : Mk K d.cMoment d.m_Moment_init
  na_Moment_hours : NoAttr K d.cMoment "hours"
  na_Moment_held : NoAttr K d.cMoment "held"
  na_Moment_left : NoAttr K d.cMoment "left"
  fn_m_Moment_init : FnAt K "__init__" "Moment.__init__" s_Moment_init d.m_Moment_init ["self", "hours", "held", "left"]
  me_Moment_empty : Meth K d.cMoment "empty" d.m_Moment_empty
  fn_m_Moment_empty : FnAt K "empty" "Moment.empty" s_Moment_empty d.m_Moment_empty ["self"]
  g_Told : mg "Told" = some (.ref d.cTold)
  cl_Told : Cls K d.cTold
  mk_Told : Mk K d.cTold d.m_Told_init
  na_Told_moment : NoAttr K d.cTold "moment"
  na_Told_given : NoAttr K d.cTold "given"
  na_Told_burnt : NoAttr K d.cTold "burnt"
  na_Told_leaked : NoAttr K d.cTold "leaked"
  na_Told_blown : NoAttr K d.cTold "blown"
  na_Told_short : NoAttr K d.cTold "short"
  fn_m_Told_init : FnAt K "__init__" "Told.__init__" s_Told_init d.m_Told_init ["self", "moment", "given", "burnt", "leaked", "blown", "short"]
  g_Wrong : mg "Wrong" = some (.ref d.cWrong)
  x_Wrong : OexC K d.cWrong
  xf_Wrong : XfC K d.cWrong
  in_Wrong : PySem.W.findIn K (.ref d.cWrong) "__init__" = some (some (.ref d.m_Wrong_init))
  ti_Wrong : PySem.W.typeIn K (.ref d.m_Wrong_init) = some (.type "function")
  te_Wrong : PySem.W.exmOne K (.ref d.cWrong) (.ref d.cWrong) = some true
  na_Wrong_line : PySem.W.findIn K (.ref d.cWrong) "line" = some none
  na_Wrong_number : PySem.W.findIn K (.ref d.cWrong) "number" = some none
  fn_m_Wrong_init : FnAt K "__init__" "Wrong.__init__" s_Wrong_init d.m_Wrong_init ["self", "line", "number"]
  g_Builder : mg "Builder" = some (.ref d.cBuilder)
  cl_Builder : Cls K d.cBuilder
  mk_Builder : Mk K d.cBuilder d.m_Builder_init
  na_Builder_once : NoAttr K d.cBuilder "once"
  na_Builder_uses : NoAttr K d.cBuilder "uses"
  fn_m_Builder_init : FnAt K "__init__" "Builder.__init__" s_Builder_init d.m_Builder_init ["self"]
  me_Builder_is_there : Meth K d.cBuilder "is_there" d.m_Builder_is_there
  fn_m_Builder_is_there : FnAt K "is_there" "Builder.is_there" s_Builder_is_there d.m_Builder_is_there ["self", "name", "words"]
  me_Builder_are_too_many : Meth K d.cBuilder "are_too_many" d.m_Builder_are_too_many
  fn_m_Builder_are_too_many : FnAt K "are_too_many" "Builder.are_too_many" s_Builder_are_too_many d.m_Builder_are_too_many ["self", "name", "words"]
  me_Builder_fault_of : Meth K d.cBuilder "fault_of" d.m_Builder_fault_of
  fn_m_Builder_fault_of : FnAt K "fault_of" "Builder.fault_of" s_Builder_fault_of d.m_Builder_fault_of ["self", "words"]
  me_Builder_take : Meth K d.cBuilder "take" d.m_Builder_take
  fn_m_Builder_take : FnAt K "take" "Builder.take" s_Builder_take d.m_Builder_take ["self", "words"]
  me_Builder_made : Meth K d.cBuilder "made" d.m_Builder_made
  fn_m_Builder_made : FnAt K "made" "Builder.made" s_Builder_made d.m_Builder_made ["self"]
  g_Refused : mg "Refused" = some (.ref d.cRefused)
  x_Refused : OexC K d.cRefused
  xf_Refused : XfC K d.cRefused
  in_Refused : PySem.W.findIn K (.ref d.cRefused) "__init__" = some (some (.ref d.m_Refused_init))
  ti_Refused : PySem.W.typeIn K (.ref d.m_Refused_init) = some (.type "function")
  te_Refused : PySem.W.exmOne K (.ref d.cRefused) (.ref d.cRefused) = some true
  na_Refused_number : PySem.W.findIn K (.ref d.cRefused) "number" = some none
  fn_m_Refused_init : FnAt K "__init__" "Refused.__init__" s_Refused_init d.m_Refused_init ["self", "number"]
  g_Desk : mg "Desk" = some (.ref d.cDesk)
  cl_Desk : Cls K d.cDesk
  mk_Desk : Mk K d.cDesk d.m_Desk_init
  na_Desk_works : NoAttr K d.cDesk "works"
  na_Desk_moment : NoAttr K d.cDesk "moment"
  na_Desk_totals : NoAttr K d.cDesk "totals"
  fn_m_Desk_init : FnAt K "__init__" "Desk.__init__" s_Desk_init d.m_Desk_init ["self"]
  me_Desk_read : Meth K d.cDesk "read" d.m_Desk_read
  fn_m_Desk_read : FnAt K "read" "Desk.read" s_Desk_read d.m_Desk_read ["self", "text"]
  me_Desk_passes : Meth K d.cDesk "passes" d.m_Desk_passes
  fn_m_Desk_passes : FnAt K "passes" "Desk.passes" s_Desk_passes d.m_Desk_passes ["self", "many"]
  me_Desk_hour : Meth K d.cDesk "hour" d.m_Desk_hour
  fn_m_Desk_hour : FnAt K "hour" "Desk.hour" s_Desk_hour d.m_Desk_hour ["self", "many"]
  me_Desk_look : Meth K d.cDesk "look" d.m_Desk_look
  fn_m_Desk_look : FnAt K "look" "Desk.look" s_Desk_look d.m_Desk_look ["self"]
  me_Desk_wanted_in : Meth K d.cDesk "wanted_in" d.m_Desk_wanted_in
  fn_m_Desk_wanted_in : FnAt K "wanted_in" "Desk.wanted_in" s_Desk_wanted_in d.m_Desk_wanted_in ["self", "hour"]
  me_Desk_best : Meth K d.cDesk "best" d.m_Desk_best
  fn_m_Desk_best : FnAt K "best" "Desk.best" s_Desk_best d.m_Desk_best ["self", "many"]
  me_Desk_plan : Meth K d.cDesk "plan" d.m_Desk_plan
  fn_m_Desk_plan : FnAt K "plan" "Desk.plan" s_Desk_plan d.m_Desk_plan ["self", "many"]
  me_Desk_follow : Meth K d.cDesk "follow" d.m_Desk_follow
  fn_m_Desk_follow : FnAt K "follow" "Desk.follow" s_Desk_follow d.m_Desk_follow ["self", "many"]
  me_Desk_lasts : Meth K d.cDesk "lasts" d.m_Desk_lasts
  fn_m_Desk_lasts : FnAt K "lasts" "Desk.lasts" s_Desk_lasts d.m_Desk_lasts ["self"]
  me_Desk_told_by_number : Meth K d.cDesk "told_by_number" d.m_Desk_told_by_number
  fn_m_Desk_told_by_number : FnAt K "told_by_number" "Desk.told_by_number" s_Desk_told_by_number d.m_Desk_told_by_number ["self", "call", "n"]
  me_Desk_told : Meth K d.cDesk "told" d.m_Desk_told
  fn_m_Desk_told : FnAt K "told" "Desk.told" s_Desk_told d.m_Desk_told ["self", "call"]
  me_Desk_answer : Meth K d.cDesk "answer" d.m_Desk_answer
  fn_m_Desk_answer : FnAt K "answer" "Desk.answer" s_Desk_answer d.m_Desk_answer ["self", "call", "n"]
  g_beginning : mg "beginning" = some (.ref d.f_beginning)
  k_beginning : PySem.W.keepIn K (.ref d.f_beginning) = true
  fn_beginning : FnAt K "beginning" "beginning" s_beginning d.f_beginning ["works"]
  g_charged : mg "charged" = some (.ref d.f_charged)
  k_charged : PySem.W.keepIn K (.ref d.f_charged) = true
  fn_charged : FnAt K "charged" "charged" s_charged d.f_charged ["left", "many", "hours"]
  g_hour_passed : mg "hour_passed" = some (.ref d.f_hour_passed)
  k_hour_passed : PySem.W.keepIn K (.ref d.f_hour_passed) = true
  fn_hour_passed : FnAt K "hour_passed" "hour_passed" s_hour_passed d.f_hour_passed ["works", "moment", "many"]
  g_state_of : mg "state_of" = some (.ref d.f_state_of)
  k_state_of : PySem.W.keepIn K (.ref d.f_state_of) = true
  fn_state_of : FnAt K "state_of" "state_of" s_state_of d.f_state_of ["moment"]
  g_continued : mg "continued" = some (.ref d.f_continued)
  k_continued : PySem.W.keepIn K (.ref d.f_continued) = true
  fn_continued : FnAt K "continued" "continued" s_continued d.f_continued ["works", "hours", "known"]
  g_best_plan : mg "best_plan" = some (.ref d.f_best_plan)
  k_best_plan : PySem.W.keepIn K (.ref d.f_best_plan) = true
  fn_best_plan : FnAt K "best_plan" "best_plan" s_best_plan d.f_best_plan ["works", "moment", "many"]
  g_parted : mg "parted" = some (.ref d.f_parted)
  k_parted : PySem.W.keepIn K (.ref d.f_parted) = true
  fn_parted : FnAt K "parted" "parted" s_parted d.f_parted ["row", "at"]
  g_is_name : mg "is_name" = some (.ref d.f_is_name)
  k_is_name : PySem.W.keepIn K (.ref d.f_is_name) = true
  fn_is_name : FnAt K "is_name" "is_name" s_is_name d.f_is_name ["word"]
  g_is_number : mg "is_number" = some (.ref d.f_is_number)
  k_is_number : PySem.W.keepIn K (.ref d.f_is_number) = true
  fn_is_number : FnAt K "is_number" "is_number" s_is_number d.f_is_number ["word"]
  g_number_of : mg "number_of" = some (.ref d.f_number_of)
  k_number_of : PySem.W.keepIn K (.ref d.f_number_of) = true
  fn_number_of : FnAt K "number_of" "number_of" s_number_of d.f_number_of ["word"]
  g_is_within : mg "is_within" = some (.ref d.f_is_within)
  k_is_within : PySem.W.keepIn K (.ref d.f_is_within) = true
  fn_is_within : FnAt K "is_within" "is_within" s_is_within d.f_is_within ["number", "least", "most"]
  g_is_of : mg "is_of" = some (.ref d.f_is_of)
  k_is_of : PySem.W.keepIn K (.ref d.f_is_of) = true
  fn_is_of : FnAt K "is_of" "is_of" s_is_of d.f_is_of ["name", "word"]
  g_told_word : mg "told_word" = some (.ref d.f_told_word)
  k_told_word : PySem.W.keepIn K (.ref d.f_told_word) = true
  fn_told_word : FnAt K "told_word" "told_word" s_told_word d.f_told_word ["word"]
  g_has_form : mg "has_form" = some (.ref d.f_has_form)
  k_has_form : PySem.W.keepIn K (.ref d.f_has_form) = true
  fn_has_form : FnAt K "has_form" "has_form" s_has_form d.f_has_form ["name", "words"]
  g_are_within : mg "are_within" = some (.ref d.f_are_within)
  k_are_within : PySem.W.keepIn K (.ref d.f_are_within) = true
  fn_are_within : FnAt K "are_within" "are_within" s_are_within d.f_are_within ["name", "n"]
  g_read_works : mg "read_works" = some (.ref d.f_read_works)
  k_read_works : PySem.W.keepIn K (.ref d.f_read_works) = true
  fn_read_works : FnAt K "read_works" "read_works" s_read_works d.f_read_works ["text"]
  g_want : mg "want" = some (.ref d.f_want)
  k_want : PySem.W.keepIn K (.ref d.f_want) = true
  fn_want : FnAt K "want" "want" s_want d.f_want ["is_so", "number"]
  g_answers : mg "answers" = some (.ref d.f_answers)
  k_answers : PySem.W.keepIn K (.ref d.f_answers) = true
  fn_answers : FnAt K "answers" "answers" s_answers d.f_answers ["calls"]
  k_HOURS_OF_DAY : ∃ t, mg "HOURS_OF_DAY" = some (.int (24) t)
  k_LINE_END : ∃ t, mg "LINE_END" = some (.int (10) t)
  k_BLANK : ∃ t, mg "BLANK" = some (.int (32) t)
  k_MARK : ∃ t, mg "MARK" = some (.int (35) t)
  k_NOUGHT : ∃ t, mg "NOUGHT" = some (.int (48) t)
  k_MOST_NAME : ∃ t, mg "MOST_NAME" = some (.int (12) t)
  k_MOST_FIGURES : ∃ t, mg "MOST_FIGURES" = some (.int (4) t)
  k_NO_WORD : ∃ t, mg "NO_WORD" = some (.int (1) t)
  k_NOT_SO : ∃ t, mg "NOT_SO" = some (.int (2) t)
  k_THERE : ∃ t, mg "THERE" = some (.int (4) t)
  k_OUTSIDE : ∃ t, mg "OUTSIDE" = some (.int (5) t)
  k_TOO_MANY : ∃ t, mg "TOO_MANY" = some (.int (6) t)
  k_LACKING : ∃ t, mg "LACKING" = some (.int (7) t)
  k_MOST_HELD : ∃ t, mg "MOST_HELD" = some (.int (30) t)
  k_MOST_RETORTS : ∃ t, mg "MOST_RETORTS" = some (.int (3) t)
  k_MOST_LEAK : ∃ t, mg "MOST_LEAK" = some (.int (5) t)
  k_MOST_HOURS : ∃ t, mg "MOST_HOURS" = some (.int (3) t)
  k_MOST_GIVEN : ∃ t, mg "MOST_GIVEN" = some (.int (20) t)
  k_MOST_USES : ∃ t, mg "MOST_USES" = some (.int (8) t)
  k_MOST_BURNT : ∃ t, mg "MOST_BURNT" = some (.int (20) t)
  k_LAST_HOUR_reading : ∃ t, mg "LAST_HOUR_reading" = some (.int (23) t)
  k_BAD : ∃ t, mg "BAD" = some (.int (-1) t)
  k_NO_TEXT : ∃ t, mg "NO_TEXT" = some (.int (-2) t)
  k_NO_PLAN : ∃ t, mg "NO_PLAN" = some (.int (-6) t)
  k_NO_WORKS : ∃ t, mg "NO_WORKS" = some (.int (-9) t)
  k_LAST_HOUR_works : ∃ t, mg "LAST_HOUR_works" = some (.int (23) t)
  k_MOST_PLANNED : ∃ t, mg "MOST_PLANNED" = some (.int (16) t)
  k_MOST_LASTING : ∃ t, mg "MOST_LASTING" = some (.int (200) t)
  k_READ : ∃ t, mg "READ" = some (.int (0) t)
  k_HOLDER : ∃ t, mg "HOLDER" = some (.str "holder" t)
  k_RETORTS : ∃ t, mg "RETORTS" = some (.str "retorts" t)
  k_LEAK : ∃ t, mg "LEAK" = some (.str "leak" t)
  k_CHARGE : ∃ t, mg "CHARGE" = some (.str "charge" t)
  k_USE : ∃ t, mg "USE" = some (.str "use" t)
  b_sum : mg "sum" = none
  b_len : mg "len" = none
  b_min : mg "min" = none
  b_max : mg "max" = none
  b_tuple : mg "tuple" = none
  b_sorted : mg "sorted" = none
  b_range : mg "range" = none
  b_enumerate : mg "enumerate" = none
  b_all : mg "all" = none
  b_ord : mg "ord" = none
  b_int : mg "int" = none
  b_zip : mg "zip" = none
  b_list : mg "list" = none
  b_ValueError : mg "ValueError" = none
  g_WORDS : mg "WORDS" = some (.ref d.wWORDS)
  t_WORDS : ∀ H, SqT K H d.wWORDS [.str "holder", .str "retorts", .str "leak", .str "charge", .str "use"]
  g_WITH_NUMBER : mg "WITH_NUMBER" = some (.ref d.wWITH)
  t_WITH_NUMBER : ∀ H, SqT K H d.wWITH [.int 1, .int 4, .int 5, .int 6]
  veinit : PySem.W.findCls K (.type "ValueError") (.type "type") "__init__" = some (.val (.builtin "ValueError.__init__"))
/-! ### fields -/
theorem lk_here {k : Str} {v : V} {r : List (Str × V)} : List.lookup k ((k, v) :: r) = some v := by
  have e : (k == k) = true := beq_self_eq_true k
  simp only [List.lookup, e]
theorem lk_past {k g : Str} {v : V} {r : List (Str × V)} (h : (k == g) = false) : List.lookup k ((g, v) :: r) = List.lookup k r := by
  simp only [List.lookup, h]
theorem put_here {f : Str} {v x : V} {r : List (Str × V)} : putF f v ((f, x) :: r) = (f, v) :: r := if_pos rfl
theorem put_past {f g : Str} {v x : V} {r : List (Str × V)} (h : ¬ g = f) : putF f v ((g, x) :: r) = (g, x) :: putF f v r := if_neg h
def F_Use (v0 v1 v2 v3 : V) : List (Str × V) := [("name", v0), ("many", v1), ("begin", v2), ("end", v3)]
theorem lk_Use_name (v0 v1 v2 v3 : V) : (F_Use v0 v1 v2 v3).lookup ("name" : Str) = some v0 := lk_here
theorem ne_many__name : (("many" : Str) == "name") = false := by decide +kernel
theorem lk_Use_many (v0 v1 v2 v3 : V) : (F_Use v0 v1 v2 v3).lookup ("many" : Str) = some v1 := (lk_past ne_many__name).trans lk_here
theorem ne_begin__name : (("begin" : Str) == "name") = false := by decide +kernel
theorem ne_begin__many : (("begin" : Str) == "many") = false := by decide +kernel
theorem lk_Use_begin (v0 v1 v2 v3 : V) : (F_Use v0 v1 v2 v3).lookup ("begin" : Str) = some v2 := (lk_past ne_begin__name).trans ((lk_past ne_begin__many).trans lk_here)
theorem ne_end__name : (("end" : Str) == "name") = false := by decide +kernel
theorem ne_end__many : (("end" : Str) == "many") = false := by decide +kernel
theorem ne_end__begin : (("end" : Str) == "begin") = false := by decide +kernel
theorem lk_Use_end (v0 v1 v2 v3 : V) : (F_Use v0 v1 v2 v3).lookup ("end" : Str) = some v3 := (lk_past ne_end__name).trans ((lk_past ne_end__many).trans ((lk_past ne_end__begin).trans lk_here))
theorem ne_does_burn__name : (("does_burn" : Str) == "name") = false := by decide +kernel
theorem ne_does_burn__many : (("does_burn" : Str) == "many") = false := by decide +kernel
theorem ne_does_burn__begin : (("does_burn" : Str) == "begin") = false := by decide +kernel
theorem ne_does_burn__end : (("does_burn" : Str) == "end") = false := by decide +kernel
theorem lk_Use_no_does_burn (v0 v1 v2 v3 : V) : (F_Use v0 v1 v2 v3).lookup ("does_burn" : Str) = none := (lk_past ne_does_burn__name).trans ((lk_past ne_does_burn__many).trans ((lk_past ne_does_burn__begin).trans ((lk_past ne_does_burn__end).trans (rfl))))
theorem nq_name__many : ¬ (("name" : Str) = "many") := by decide +kernel
theorem nq_name__begin : ¬ (("name" : Str) = "begin") := by decide +kernel
theorem nq_many__begin : ¬ (("many" : Str) = "begin") := by decide +kernel
theorem nq_name__end : ¬ (("name" : Str) = "end") := by decide +kernel
theorem nq_many__end : ¬ (("many" : Str) = "end") := by decide +kernel
theorem nq_begin__end : ¬ (("begin" : Str) = "end") := by decide +kernel
theorem new_Use (v0 v1 v2 v3 : V) : putF "end" v3 (putF "begin" v2 (putF "many" v1 (putF "name" v0 (([] : List (Str × V)))))) = F_Use v0 v1 v2 v3 := by
  simp only [putF, nq_name__many, nq_name__begin, nq_many__begin, nq_name__end, nq_many__end, nq_begin__end, if_false]
  rfl
def F_Works (v0 v1 v2 v3 v4 v5 : V) : List (Str × V) := [("holds", v0), ("first", v1), ("retorts", v2), ("leak", v3), ("charge", v4), ("uses", v5)]
theorem lk_Works_holds (v0 v1 v2 v3 v4 v5 : V) : (F_Works v0 v1 v2 v3 v4 v5).lookup ("holds" : Str) = some v0 := lk_here
theorem ne_first__holds : (("first" : Str) == "holds") = false := by decide +kernel
theorem lk_Works_first (v0 v1 v2 v3 v4 v5 : V) : (F_Works v0 v1 v2 v3 v4 v5).lookup ("first" : Str) = some v1 := (lk_past ne_first__holds).trans lk_here
theorem ne_retorts__holds : (("retorts" : Str) == "holds") = false := by decide +kernel
theorem ne_retorts__first : (("retorts" : Str) == "first") = false := by decide +kernel
theorem lk_Works_retorts (v0 v1 v2 v3 v4 v5 : V) : (F_Works v0 v1 v2 v3 v4 v5).lookup ("retorts" : Str) = some v2 := (lk_past ne_retorts__holds).trans ((lk_past ne_retorts__first).trans lk_here)
theorem ne_leak__holds : (("leak" : Str) == "holds") = false := by decide +kernel
theorem ne_leak__first : (("leak" : Str) == "first") = false := by decide +kernel
theorem ne_leak__retorts : (("leak" : Str) == "retorts") = false := by decide +kernel
theorem lk_Works_leak (v0 v1 v2 v3 v4 v5 : V) : (F_Works v0 v1 v2 v3 v4 v5).lookup ("leak" : Str) = some v3 := (lk_past ne_leak__holds).trans ((lk_past ne_leak__first).trans ((lk_past ne_leak__retorts).trans lk_here))
theorem ne_charge__holds : (("charge" : Str) == "holds") = false := by decide +kernel
theorem ne_charge__first : (("charge" : Str) == "first") = false := by decide +kernel
theorem ne_charge__retorts : (("charge" : Str) == "retorts") = false := by decide +kernel
theorem ne_charge__leak : (("charge" : Str) == "leak") = false := by decide +kernel
theorem lk_Works_charge (v0 v1 v2 v3 v4 v5 : V) : (F_Works v0 v1 v2 v3 v4 v5).lookup ("charge" : Str) = some v4 := (lk_past ne_charge__holds).trans ((lk_past ne_charge__first).trans ((lk_past ne_charge__retorts).trans ((lk_past ne_charge__leak).trans lk_here)))
theorem ne_uses__holds : (("uses" : Str) == "holds") = false := by decide +kernel
theorem ne_uses__first : (("uses" : Str) == "first") = false := by decide +kernel
theorem ne_uses__retorts : (("uses" : Str) == "retorts") = false := by decide +kernel
theorem ne_uses__leak : (("uses" : Str) == "leak") = false := by decide +kernel
theorem ne_uses__charge : (("uses" : Str) == "charge") = false := by decide +kernel
theorem lk_Works_uses (v0 v1 v2 v3 v4 v5 : V) : (F_Works v0 v1 v2 v3 v4 v5).lookup ("uses" : Str) = some v5 := (lk_past ne_uses__holds).trans ((lk_past ne_uses__first).trans ((lk_past ne_uses__retorts).trans ((lk_past ne_uses__leak).trans ((lk_past ne_uses__charge).trans lk_here))))
theorem ne_wanted__holds : (("wanted" : Str) == "holds") = false := by decide +kernel
theorem ne_wanted__first : (("wanted" : Str) == "first") = false := by decide +kernel
theorem ne_wanted__retorts : (("wanted" : Str) == "retorts") = false := by decide +kernel
theorem ne_wanted__leak : (("wanted" : Str) == "leak") = false := by decide +kernel
theorem ne_wanted__charge : (("wanted" : Str) == "charge") = false := by decide +kernel
theorem ne_wanted__uses : (("wanted" : Str) == "uses") = false := by decide +kernel
theorem lk_Works_no_wanted (v0 v1 v2 v3 v4 v5 : V) : (F_Works v0 v1 v2 v3 v4 v5).lookup ("wanted" : Str) = none := (lk_past ne_wanted__holds).trans ((lk_past ne_wanted__first).trans ((lk_past ne_wanted__retorts).trans ((lk_past ne_wanted__leak).trans ((lk_past ne_wanted__charge).trans ((lk_past ne_wanted__uses).trans (rfl))))))
theorem ne_given_by__holds : (("given_by" : Str) == "holds") = false := by decide +kernel
theorem ne_given_by__first : (("given_by" : Str) == "first") = false := by decide +kernel
theorem ne_given_by__retorts : (("given_by" : Str) == "retorts") = false := by decide +kernel
theorem ne_given_by__leak : (("given_by" : Str) == "leak") = false := by decide +kernel
theorem ne_given_by__charge : (("given_by" : Str) == "charge") = false := by decide +kernel
theorem ne_given_by__uses : (("given_by" : Str) == "uses") = false := by decide +kernel
theorem lk_Works_no_given_by (v0 v1 v2 v3 v4 v5 : V) : (F_Works v0 v1 v2 v3 v4 v5).lookup ("given_by" : Str) = none := (lk_past ne_given_by__holds).trans ((lk_past ne_given_by__first).trans ((lk_past ne_given_by__retorts).trans ((lk_past ne_given_by__leak).trans ((lk_past ne_given_by__charge).trans ((lk_past ne_given_by__uses).trans (rfl))))))
theorem nq_holds__first : ¬ (("holds" : Str) = "first") := by decide +kernel
theorem nq_holds__retorts : ¬ (("holds" : Str) = "retorts") := by decide +kernel
theorem nq_first__retorts : ¬ (("first" : Str) = "retorts") := by decide +kernel
theorem nq_holds__leak : ¬ (("holds" : Str) = "leak") := by decide +kernel
theorem nq_first__leak : ¬ (("first" : Str) = "leak") := by decide +kernel
theorem nq_retorts__leak : ¬ (("retorts" : Str) = "leak") := by decide +kernel
theorem nq_holds__charge : ¬ (("holds" : Str) = "charge") := by decide +kernel
theorem nq_first__charge : ¬ (("first" : Str) = "charge") := by decide +kernel
theorem nq_retorts__charge : ¬ (("retorts" : Str) = "charge") := by decide +kernel
theorem nq_leak__charge : ¬ (("leak" : Str) = "charge") := by decide +kernel
theorem nq_holds__uses : ¬ (("holds" : Str) = "uses") := by decide +kernel
theorem nq_first__uses : ¬ (("first" : Str) = "uses") := by decide +kernel
theorem nq_retorts__uses : ¬ (("retorts" : Str) = "uses") := by decide +kernel
theorem nq_leak__uses : ¬ (("leak" : Str) = "uses") := by decide +kernel
theorem nq_charge__uses : ¬ (("charge" : Str) = "uses") := by decide +kernel
theorem new_Works (v0 v1 v2 v3 v4 v5 : V) : putF "uses" v5 (putF "charge" v4 (putF "leak" v3 (putF "retorts" v2 (putF "first" v1 (putF "holds" v0 (([] : List (Str × V)))))))) = F_Works v0 v1 v2 v3 v4 v5 := by
  simp only [putF, nq_holds__first, nq_holds__retorts, nq_first__retorts, nq_holds__leak, nq_first__leak, nq_retorts__leak, nq_holds__charge, nq_first__charge, nq_retorts__charge, nq_leak__charge, nq_holds__uses, nq_first__uses, nq_retorts__uses, nq_leak__uses, nq_charge__uses, if_false]
  rfl
def F_Moment (v0 v1 v2 : V) : List (Str × V) := [("hours", v0), ("held", v1), ("left", v2)]
theorem lk_Moment_hours (v0 v1 v2 : V) : (F_Moment v0 v1 v2).lookup ("hours" : Str) = some v0 := lk_here
theorem ne_held__hours : (("held" : Str) == "hours") = false := by decide +kernel
theorem lk_Moment_held (v0 v1 v2 : V) : (F_Moment v0 v1 v2).lookup ("held" : Str) = some v1 := (lk_past ne_held__hours).trans lk_here
theorem ne_left__hours : (("left" : Str) == "hours") = false := by decide +kernel
theorem ne_left__held : (("left" : Str) == "held") = false := by decide +kernel
theorem lk_Moment_left (v0 v1 v2 : V) : (F_Moment v0 v1 v2).lookup ("left" : Str) = some v2 := (lk_past ne_left__hours).trans ((lk_past ne_left__held).trans lk_here)
theorem ne_empty__hours : (("empty" : Str) == "hours") = false := by decide +kernel
theorem ne_empty__held : (("empty" : Str) == "held") = false := by decide +kernel
theorem ne_empty__left : (("empty" : Str) == "left") = false := by decide +kernel
theorem lk_Moment_no_empty (v0 v1 v2 : V) : (F_Moment v0 v1 v2).lookup ("empty" : Str) = none := (lk_past ne_empty__hours).trans ((lk_past ne_empty__held).trans ((lk_past ne_empty__left).trans (rfl)))
theorem nq_hours__held : ¬ (("hours" : Str) = "held") := by decide +kernel
theorem nq_hours__left : ¬ (("hours" : Str) = "left") := by decide +kernel
theorem nq_held__left : ¬ (("held" : Str) = "left") := by decide +kernel
theorem new_Moment (v0 v1 v2 : V) : putF "left" v2 (putF "held" v1 (putF "hours" v0 (([] : List (Str × V))))) = F_Moment v0 v1 v2 := by
  simp only [putF, nq_hours__held, nq_hours__left, nq_held__left, if_false]
  rfl
def F_Told (v0 v1 v2 v3 v4 v5 : V) : List (Str × V) := [("moment", v0), ("given", v1), ("burnt", v2), ("leaked", v3), ("blown", v4), ("short", v5)]
theorem lk_Told_moment (v0 v1 v2 v3 v4 v5 : V) : (F_Told v0 v1 v2 v3 v4 v5).lookup ("moment" : Str) = some v0 := lk_here
theorem ne_given__moment : (("given" : Str) == "moment") = false := by decide +kernel
theorem lk_Told_given (v0 v1 v2 v3 v4 v5 : V) : (F_Told v0 v1 v2 v3 v4 v5).lookup ("given" : Str) = some v1 := (lk_past ne_given__moment).trans lk_here
theorem ne_burnt__moment : (("burnt" : Str) == "moment") = false := by decide +kernel
theorem ne_burnt__given : (("burnt" : Str) == "given") = false := by decide +kernel
theorem lk_Told_burnt (v0 v1 v2 v3 v4 v5 : V) : (F_Told v0 v1 v2 v3 v4 v5).lookup ("burnt" : Str) = some v2 := (lk_past ne_burnt__moment).trans ((lk_past ne_burnt__given).trans lk_here)
theorem ne_leaked__moment : (("leaked" : Str) == "moment") = false := by decide +kernel
theorem ne_leaked__given : (("leaked" : Str) == "given") = false := by decide +kernel
theorem ne_leaked__burnt : (("leaked" : Str) == "burnt") = false := by decide +kernel
theorem lk_Told_leaked (v0 v1 v2 v3 v4 v5 : V) : (F_Told v0 v1 v2 v3 v4 v5).lookup ("leaked" : Str) = some v3 := (lk_past ne_leaked__moment).trans ((lk_past ne_leaked__given).trans ((lk_past ne_leaked__burnt).trans lk_here))
theorem ne_blown__moment : (("blown" : Str) == "moment") = false := by decide +kernel
theorem ne_blown__given : (("blown" : Str) == "given") = false := by decide +kernel
theorem ne_blown__burnt : (("blown" : Str) == "burnt") = false := by decide +kernel
theorem ne_blown__leaked : (("blown" : Str) == "leaked") = false := by decide +kernel
theorem lk_Told_blown (v0 v1 v2 v3 v4 v5 : V) : (F_Told v0 v1 v2 v3 v4 v5).lookup ("blown" : Str) = some v4 := (lk_past ne_blown__moment).trans ((lk_past ne_blown__given).trans ((lk_past ne_blown__burnt).trans ((lk_past ne_blown__leaked).trans lk_here)))
theorem ne_short__moment : (("short" : Str) == "moment") = false := by decide +kernel
theorem ne_short__given : (("short" : Str) == "given") = false := by decide +kernel
theorem ne_short__burnt : (("short" : Str) == "burnt") = false := by decide +kernel
theorem ne_short__leaked : (("short" : Str) == "leaked") = false := by decide +kernel
theorem ne_short__blown : (("short" : Str) == "blown") = false := by decide +kernel
theorem lk_Told_short (v0 v1 v2 v3 v4 v5 : V) : (F_Told v0 v1 v2 v3 v4 v5).lookup ("short" : Str) = some v5 := (lk_past ne_short__moment).trans ((lk_past ne_short__given).trans ((lk_past ne_short__burnt).trans ((lk_past ne_short__leaked).trans ((lk_past ne_short__blown).trans lk_here))))
theorem nq_moment__given : ¬ (("moment" : Str) = "given") := by decide +kernel
theorem nq_moment__burnt : ¬ (("moment" : Str) = "burnt") := by decide +kernel
theorem nq_given__burnt : ¬ (("given" : Str) = "burnt") := by decide +kernel
theorem nq_moment__leaked : ¬ (("moment" : Str) = "leaked") := by decide +kernel
theorem nq_given__leaked : ¬ (("given" : Str) = "leaked") := by decide +kernel
theorem nq_burnt__leaked : ¬ (("burnt" : Str) = "leaked") := by decide +kernel
theorem nq_moment__blown : ¬ (("moment" : Str) = "blown") := by decide +kernel
theorem nq_given__blown : ¬ (("given" : Str) = "blown") := by decide +kernel
theorem nq_burnt__blown : ¬ (("burnt" : Str) = "blown") := by decide +kernel
theorem nq_leaked__blown : ¬ (("leaked" : Str) = "blown") := by decide +kernel
theorem nq_moment__short : ¬ (("moment" : Str) = "short") := by decide +kernel
theorem nq_given__short : ¬ (("given" : Str) = "short") := by decide +kernel
theorem nq_burnt__short : ¬ (("burnt" : Str) = "short") := by decide +kernel
theorem nq_leaked__short : ¬ (("leaked" : Str) = "short") := by decide +kernel
theorem nq_blown__short : ¬ (("blown" : Str) = "short") := by decide +kernel
theorem new_Told (v0 v1 v2 v3 v4 v5 : V) : putF "short" v5 (putF "blown" v4 (putF "leaked" v3 (putF "burnt" v2 (putF "given" v1 (putF "moment" v0 (([] : List (Str × V)))))))) = F_Told v0 v1 v2 v3 v4 v5 := by
  simp only [putF, nq_moment__given, nq_moment__burnt, nq_given__burnt, nq_moment__leaked, nq_given__leaked, nq_burnt__leaked, nq_moment__blown, nq_given__blown, nq_burnt__blown, nq_leaked__blown, nq_moment__short, nq_given__short, nq_burnt__short, nq_leaked__short, nq_blown__short, if_false]
  rfl
def F_Builder (v0 v1 : V) : List (Str × V) := [("once", v0), ("uses", v1)]
theorem lk_Builder_once (v0 v1 : V) : (F_Builder v0 v1).lookup ("once" : Str) = some v0 := lk_here
theorem ne_uses__once : (("uses" : Str) == "once") = false := by decide +kernel
theorem lk_Builder_uses (v0 v1 : V) : (F_Builder v0 v1).lookup ("uses" : Str) = some v1 := (lk_past ne_uses__once).trans lk_here
theorem ne_is_there__once : (("is_there" : Str) == "once") = false := by decide +kernel
theorem ne_is_there__uses : (("is_there" : Str) == "uses") = false := by decide +kernel
theorem lk_Builder_no_is_there (v0 v1 : V) : (F_Builder v0 v1).lookup ("is_there" : Str) = none := (lk_past ne_is_there__once).trans ((lk_past ne_is_there__uses).trans (rfl))
theorem ne_are_too_many__once : (("are_too_many" : Str) == "once") = false := by decide +kernel
theorem ne_are_too_many__uses : (("are_too_many" : Str) == "uses") = false := by decide +kernel
theorem lk_Builder_no_are_too_many (v0 v1 : V) : (F_Builder v0 v1).lookup ("are_too_many" : Str) = none := (lk_past ne_are_too_many__once).trans ((lk_past ne_are_too_many__uses).trans (rfl))
theorem ne_fault_of__once : (("fault_of" : Str) == "once") = false := by decide +kernel
theorem ne_fault_of__uses : (("fault_of" : Str) == "uses") = false := by decide +kernel
theorem lk_Builder_no_fault_of (v0 v1 : V) : (F_Builder v0 v1).lookup ("fault_of" : Str) = none := (lk_past ne_fault_of__once).trans ((lk_past ne_fault_of__uses).trans (rfl))
theorem ne_take__once : (("take" : Str) == "once") = false := by decide +kernel
theorem ne_take__uses : (("take" : Str) == "uses") = false := by decide +kernel
theorem lk_Builder_no_take (v0 v1 : V) : (F_Builder v0 v1).lookup ("take" : Str) = none := (lk_past ne_take__once).trans ((lk_past ne_take__uses).trans (rfl))
theorem ne_made__once : (("made" : Str) == "once") = false := by decide +kernel
theorem ne_made__uses : (("made" : Str) == "uses") = false := by decide +kernel
theorem lk_Builder_no_made (v0 v1 : V) : (F_Builder v0 v1).lookup ("made" : Str) = none := (lk_past ne_made__once).trans ((lk_past ne_made__uses).trans (rfl))
theorem nq_once__uses : ¬ (("once" : Str) = "uses") := by decide +kernel
theorem new_Builder (v0 v1 : V) : putF "uses" v1 (putF "once" v0 (([] : List (Str × V)))) = F_Builder v0 v1 := by
  simp only [putF, nq_once__uses, if_false]
  rfl
def F_Desk (v0 v1 v2 : V) : List (Str × V) := [("works", v0), ("moment", v1), ("totals", v2)]
theorem lk_Desk_works (v0 v1 v2 : V) : (F_Desk v0 v1 v2).lookup ("works" : Str) = some v0 := lk_here
theorem ne_moment__works : (("moment" : Str) == "works") = false := by decide +kernel
theorem lk_Desk_moment (v0 v1 v2 : V) : (F_Desk v0 v1 v2).lookup ("moment" : Str) = some v1 := (lk_past ne_moment__works).trans lk_here
theorem ne_totals__works : (("totals" : Str) == "works") = false := by decide +kernel
theorem ne_totals__moment : (("totals" : Str) == "moment") = false := by decide +kernel
theorem lk_Desk_totals (v0 v1 v2 : V) : (F_Desk v0 v1 v2).lookup ("totals" : Str) = some v2 := (lk_past ne_totals__works).trans ((lk_past ne_totals__moment).trans lk_here)
theorem ne_read__works : (("read" : Str) == "works") = false := by decide +kernel
theorem ne_read__moment : (("read" : Str) == "moment") = false := by decide +kernel
theorem ne_read__totals : (("read" : Str) == "totals") = false := by decide +kernel
theorem lk_Desk_no_read (v0 v1 v2 : V) : (F_Desk v0 v1 v2).lookup ("read" : Str) = none := (lk_past ne_read__works).trans ((lk_past ne_read__moment).trans ((lk_past ne_read__totals).trans (rfl)))
theorem ne_passes__works : (("passes" : Str) == "works") = false := by decide +kernel
theorem ne_passes__moment : (("passes" : Str) == "moment") = false := by decide +kernel
theorem ne_passes__totals : (("passes" : Str) == "totals") = false := by decide +kernel
theorem lk_Desk_no_passes (v0 v1 v2 : V) : (F_Desk v0 v1 v2).lookup ("passes" : Str) = none := (lk_past ne_passes__works).trans ((lk_past ne_passes__moment).trans ((lk_past ne_passes__totals).trans (rfl)))
theorem ne_hour__works : (("hour" : Str) == "works") = false := by decide +kernel
theorem ne_hour__moment : (("hour" : Str) == "moment") = false := by decide +kernel
theorem ne_hour__totals : (("hour" : Str) == "totals") = false := by decide +kernel
theorem lk_Desk_no_hour (v0 v1 v2 : V) : (F_Desk v0 v1 v2).lookup ("hour" : Str) = none := (lk_past ne_hour__works).trans ((lk_past ne_hour__moment).trans ((lk_past ne_hour__totals).trans (rfl)))
theorem ne_look__works : (("look" : Str) == "works") = false := by decide +kernel
theorem ne_look__moment : (("look" : Str) == "moment") = false := by decide +kernel
theorem ne_look__totals : (("look" : Str) == "totals") = false := by decide +kernel
theorem lk_Desk_no_look (v0 v1 v2 : V) : (F_Desk v0 v1 v2).lookup ("look" : Str) = none := (lk_past ne_look__works).trans ((lk_past ne_look__moment).trans ((lk_past ne_look__totals).trans (rfl)))
theorem ne_wanted_in__works : (("wanted_in" : Str) == "works") = false := by decide +kernel
theorem ne_wanted_in__moment : (("wanted_in" : Str) == "moment") = false := by decide +kernel
theorem ne_wanted_in__totals : (("wanted_in" : Str) == "totals") = false := by decide +kernel
theorem lk_Desk_no_wanted_in (v0 v1 v2 : V) : (F_Desk v0 v1 v2).lookup ("wanted_in" : Str) = none := (lk_past ne_wanted_in__works).trans ((lk_past ne_wanted_in__moment).trans ((lk_past ne_wanted_in__totals).trans (rfl)))
theorem ne_best__works : (("best" : Str) == "works") = false := by decide +kernel
theorem ne_best__moment : (("best" : Str) == "moment") = false := by decide +kernel
theorem ne_best__totals : (("best" : Str) == "totals") = false := by decide +kernel
theorem lk_Desk_no_best (v0 v1 v2 : V) : (F_Desk v0 v1 v2).lookup ("best" : Str) = none := (lk_past ne_best__works).trans ((lk_past ne_best__moment).trans ((lk_past ne_best__totals).trans (rfl)))
theorem ne_plan__works : (("plan" : Str) == "works") = false := by decide +kernel
theorem ne_plan__moment : (("plan" : Str) == "moment") = false := by decide +kernel
theorem ne_plan__totals : (("plan" : Str) == "totals") = false := by decide +kernel
theorem lk_Desk_no_plan (v0 v1 v2 : V) : (F_Desk v0 v1 v2).lookup ("plan" : Str) = none := (lk_past ne_plan__works).trans ((lk_past ne_plan__moment).trans ((lk_past ne_plan__totals).trans (rfl)))
theorem ne_follow__works : (("follow" : Str) == "works") = false := by decide +kernel
theorem ne_follow__moment : (("follow" : Str) == "moment") = false := by decide +kernel
theorem ne_follow__totals : (("follow" : Str) == "totals") = false := by decide +kernel
theorem lk_Desk_no_follow (v0 v1 v2 : V) : (F_Desk v0 v1 v2).lookup ("follow" : Str) = none := (lk_past ne_follow__works).trans ((lk_past ne_follow__moment).trans ((lk_past ne_follow__totals).trans (rfl)))
theorem ne_lasts__works : (("lasts" : Str) == "works") = false := by decide +kernel
theorem ne_lasts__moment : (("lasts" : Str) == "moment") = false := by decide +kernel
theorem ne_lasts__totals : (("lasts" : Str) == "totals") = false := by decide +kernel
theorem lk_Desk_no_lasts (v0 v1 v2 : V) : (F_Desk v0 v1 v2).lookup ("lasts" : Str) = none := (lk_past ne_lasts__works).trans ((lk_past ne_lasts__moment).trans ((lk_past ne_lasts__totals).trans (rfl)))
theorem ne_told_by_number__works : (("told_by_number" : Str) == "works") = false := by decide +kernel
theorem ne_told_by_number__moment : (("told_by_number" : Str) == "moment") = false := by decide +kernel
theorem ne_told_by_number__totals : (("told_by_number" : Str) == "totals") = false := by decide +kernel
theorem lk_Desk_no_told_by_number (v0 v1 v2 : V) : (F_Desk v0 v1 v2).lookup ("told_by_number" : Str) = none := (lk_past ne_told_by_number__works).trans ((lk_past ne_told_by_number__moment).trans ((lk_past ne_told_by_number__totals).trans (rfl)))
theorem ne_told__works : (("told" : Str) == "works") = false := by decide +kernel
theorem ne_told__moment : (("told" : Str) == "moment") = false := by decide +kernel
theorem ne_told__totals : (("told" : Str) == "totals") = false := by decide +kernel
theorem lk_Desk_no_told (v0 v1 v2 : V) : (F_Desk v0 v1 v2).lookup ("told" : Str) = none := (lk_past ne_told__works).trans ((lk_past ne_told__moment).trans ((lk_past ne_told__totals).trans (rfl)))
theorem ne_answer__works : (("answer" : Str) == "works") = false := by decide +kernel
theorem ne_answer__moment : (("answer" : Str) == "moment") = false := by decide +kernel
theorem ne_answer__totals : (("answer" : Str) == "totals") = false := by decide +kernel
theorem lk_Desk_no_answer (v0 v1 v2 : V) : (F_Desk v0 v1 v2).lookup ("answer" : Str) = none := (lk_past ne_answer__works).trans ((lk_past ne_answer__moment).trans ((lk_past ne_answer__totals).trans (rfl)))
theorem put_Desk_works (v0 v1 v2 x : V) : putF "works" x (F_Desk v0 v1 v2) = F_Desk x v1 v2 := put_here
theorem nq_works__moment : ¬ (("works" : Str) = "moment") := by decide +kernel
theorem put_Desk_moment (v0 v1 v2 x : V) : putF "moment" x (F_Desk v0 v1 v2) = F_Desk v0 x v2 := (put_past nq_works__moment).trans (congrArg _ (put_here))
theorem nq_works__totals : ¬ (("works" : Str) = "totals") := by decide +kernel
theorem nq_moment__totals : ¬ (("moment" : Str) = "totals") := by decide +kernel
theorem put_Desk_totals (v0 v1 v2 x : V) : putF "totals" x (F_Desk v0 v1 v2) = F_Desk v0 v1 x := (put_past nq_works__totals).trans (congrArg _ ((put_past nq_moment__totals).trans (congrArg _ (put_here))))
theorem new_Desk (v0 v1 v2 : V) : putF "totals" v2 (putF "moment" v1 (putF "works" v0 (([] : List (Str × V))))) = F_Desk v0 v1 v2 := by
  simp only [putF, nq_works__moment, nq_works__totals, nq_moment__totals, if_false]
  rfl
end G

namespace G
open PySem PySem.Spec PyProof.Rows L2 Evl
/-! ### numbers and lists of numbers as values -/
def nv (n : Nat) : V := .int (n : Int)
def nvs (l : List Nat) : List V := l.map nv
theorem nvs_len (l : List Nat) : (nvs l).length = l.length := List.length_map _
theorem nvs_get {l : List Nat} {i : Nat} {n : Nat} (h : l[i]? = some n) : (nvs l)[i]? = some (nv n) := by
  unfold nvs
  rw [List.getElem?_map, h]
  rfl
theorem nvs_ints (l : List Nat) : nvs l = (l.map fun (n : Nat) => (n : Int)).map V.int := by
  unfold nvs
  rw [List.map_map]
  rfl
/-! ### what a def returns: any value of which R holds; the heap has grown -/
def RetR (R : V → Hp → Prop) (H : Hp) (Q : VK) : Prop := ∀ v H2, Ex H H2 → R v H2 → Q v H2
def EvR (te : TE) (σ : L2.St) (H : Hp) (R : V → Hp → Prop) : Prop := ∀ H1, Ex H H1 → ∀ Q : VK, (∀ v H2, Ex H1 H2 → R v H2 → Q v H2) → te σ H1 Q
def SpR (sp : Sp) (vs : List V) (H : Hp) (R : V → Hp → Prop) : Prop := ∀ H1, Ex H H1 → ∀ Q : VK, (∀ v H2, Ex H1 H2 → R v H2 → Q v H2) → ∀ E : XK, sp vs H1 Q E
section
variable {K : PySem.W.Frag} {σ : L2.St} {H H' : Hp} {ta tb te tx : TE} {t u : TT} {x y z v : V} {r : R2} {D : Ends} {tu tw tz : TS} {C a dx : Addr} {fs : List (Str × V)} {f m : Str} {sp : Sp} {dvs vs : List V} {E : XK} {tA : TA} {R : V → Hp → Prop}
theorem ev_fld (h : Ev ta σ H (.ref a)) (ha : H a = some (.ins C dx fs)) (c : Cls K C) (n : NoAttr K C f) (l : fs.lookup f = some v) : Ev (tFld K ta f) σ H v := fun H1 e Q q =>
  h H1 e _ fun H2 e2 => ⟨a, C, dx, fs, v, rfl, e2 _ _ (e _ _ ha), c, n, l, q H2 e2⟩
theorem ev_meth (h : Ev ta σ H (.ref a)) (ha : H a = some (.ins C dx fs)) (l : fs.lookup m = none) (hA : EvA tA σ H vs) (hs : SpV sp (.ref a :: (vs ++ dvs)) H z) : Ev (tMeth C m sp dvs E ta tA) σ H z := fun H1 e Q q =>
  h H1 e _ fun H2 e2 => ⟨a, dx, fs, rfl, e2 _ _ (e _ _ ha), l, hA H2 (e.trans e2) _ fun H3 e3 => hs H3 ((e.trans e2).trans e3) Q (fun H4 e4 => q H4 ((e2.trans e3).trans e4)) E⟩
theorem er_of (h : Ev te σ H v) (hr : ∀ H2, Ex H H2 → R v H2) : EvR te σ H R := fun H1 e Q q => h H1 e Q fun H2 e2 => q v H2 e2 (hr H2 (e.trans e2))
theorem er_call (h : EvA tA σ H vs) (hs : SpR sp (vs ++ dvs) H R) : EvR (tCall sp dvs E tA) σ H R := fun H1 e Q q =>
  h H1 e _ fun H2 e2 => hs H2 (e.trans e2) Q (fun v H3 e3 hr => q v H3 (e2.trans e3) hr) E
theorem er_meth (h : Ev ta σ H (.ref a)) (ha : H a = some (.ins C dx fs)) (l : fs.lookup m = none) (hA : EvA tA σ H vs) (hs : SpR sp (.ref a :: (vs ++ dvs)) H R) : EvR (tMeth C m sp dvs E ta tA) σ H R := fun H1 e Q q =>
  h H1 e _ fun H2 e2 => ⟨a, dx, fs, rfl, e2 _ _ (e _ _ ha), l, hA H2 (e.trans e2) _ fun H3 e3 => hs H3 ((e.trans e2).trans e3) Q (fun v H4 e4 hr => q v H4 ((e2.trans e3).trans e4) hr) E⟩
theorem s_retR (h : EvR te σ H R) (k : ∀ v H1, Ex H H1 → R v H1 → D.rt v H1) : tRet te D σ H := h H (Ex.refl H) _ k
theorem q_asgR {i : Nat} (h : EvR te σ H R) (k : ∀ v H1, Ex H H1 → R v H1 → tz D (σ.set i (some v)) H1) : tSeq (tAsg te (gName i)) tz D σ H := h H (Ex.refl H) _ fun v H1 e hr => k v H1 e hr
theorem s_asgR {i : Nat} (h : EvR te σ H R) (k : ∀ v H1, Ex H H1 → R v H1 → D.nx (σ.set i (some v)) H1) : tAsg te (gName i) D σ H := h H (Ex.refl H) _ fun v H1 e hr => k v H1 e hr
/-- arguments, one of which is any value of which R holds -/
def EvAR (ta : TA) (σ : L2.St) (H : Hp) (R : List V → Hp → Prop) : Prop := ∀ H1, Ex H H1 → ∀ Q : List V → Hp → Prop, (∀ vs H2, Ex H1 H2 → R vs H2 → Q vs H2) → ta σ H1 Q
/-- a chain of ifs: the promise's value by a test -/
theorem rv_int {g : Int → Int → V} {i j : Int} {z : V} (h : g i j = z) : RV (rI0 g) (.int i) (.int j) H z := fun H1 _ _ q => ⟨i, j, rfl, rfl, by rw [h]; exact q H1 (Ex.refl H1)⟩
theorem ev_cast {w : V} (h : Ev te σ H v) (e : v = w) : Ev te σ H w := e ▸ h
theorem el_cast {xs ys : List V} (h : EvL te σ H xs) (e : xs = ys) : EvL te σ H ys := e ▸ h
/-- len -/
theorem ev_lenS {p : Addr} {xs : List V} (ha : Ev ta σ H (.ref p)) (h : SqL K H p xs ∨ SqT K H p xs) : Ev (tCB (rLenS K) (tCons ta tNil)) σ H (.int (xs.length : Int)) := fun H1 e Q q =>
  ha H1 e _ fun H2 e2 => ⟨p, xs, rfl, h.imp (ex_l (e.trans e2)) (ex_t (e.trans e2)), q H2 e2⟩
/-- a call of a built-in on one value that is a new list -/
theorem ev_cbL {rr : List V → Hp → VK → Prop} {xs : List V} (ha : EvL ta σ H xs) (hr : ∀ p H1, H1 p = some (.lst xs) → RC rr [.ref p] H1 z) : Ev (tCB rr (tCons ta tNil)) σ H z := fun H1 e Q q =>
  ha H1 e _ fun p H2 _ e2 hp => hr p H2 hp H2 (Ex.refl H2) Q fun H3 e3 => q H3 (e2.trans e3)
theorem rc_sum {p : Addr} {ns : List Int} (h : SqL K H p (ns.map V.int)) : RC (rSum K) [.ref p] H (.int ns.sum) := fun H1 e Q q => ⟨p, ns, rfl, ex_l e h, q H1 (Ex.refl H1)⟩
theorem rc_all {p : Addr} {bs : List Bool} (h : SqL K H p (bs.map V.bl)) : RC (rAll K) [.ref p] H (.bl (bs.all id)) := fun H1 e Q q => ⟨p, bs, rfl, ex_l e h, q H1 (Ex.refl H1)⟩
theorem total_sum : ∀ ns : List Nat, ((Mu14.total ns : Nat) : Int) = (ns.map fun (n : Nat) => (n : Int)).sum
  | [] => rfl
  | n :: r => by rw [G.total_cons, List.map_cons, List.sum_cons, Int.natCast_add, total_sum r]
theorem ev_sum {ns : List Nat} (ha : EvL ta σ H (nvs ns)) : Ev (tCB (rSum K) (tCons ta tNil)) σ H (nv (Mu14.total ns)) := by
  have e : nv (Mu14.total ns) = .int ((ns.map fun (n : Nat) => (n : Int)).sum) := by
    unfold nv
    rw [total_sum]
  rw [e]
  refine ev_cbL ha fun p H1 hp => rc_sum (SqL.of ?_)
  rw [hp, nvs_ints]
theorem ev_all {bs : List Bool} (ha : EvL ta σ H (bs.map V.bl)) : Ev (tCB (rAll K) (tCons ta tNil)) σ H (.bl (bs.all id)) := ev_cbL ha fun p H1 hp => rc_all (SqL.of hp)
theorem ev_lenN' {xs : List V} (ha : EvL ta σ H xs) : Ev (tCB (rLenS K) (tCons ta tNil)) σ H (.int (xs.length : Int)) := ev_lenN ha
/-- an if as a whole: a value either way -/
theorem s_ifR {b : Bool} (h : EvT t σ H b) (h1 : b = true → ∀ H1, Ex H H1 → tu D σ H1) (h2 : b = false → ∀ H1, Ex H H1 → tw D σ H1) : tIfS t tu tw D σ H := s_if h h1 h2
end
/-! ### comprehensions over numbers -/
section
variable {K : PySem.W.Frag} {σ : L2.St} {H H' : Hp} {ta tb te tl : TE} {t u : TT} {a : Addr}
theorem given_of {α : Type} {ns : List α} {p : α → Bool} {g : α → V} {f : Nat → Bool} {v : Nat → V} (h : ∀ (i : Nat) (n : α), ns[i]? = some n → f i = p n ∧ v i = g n) : ∀ k, k ≤ ns.length → given k f v = ((ns.take k).filter p).map g
  | 0, _ => rfl
  | k + 1, hk => by
    have ih := given_of h k (by omega)
    have hn : ns[k]? = some ns[k] := List.getElem?_eq_getElem (by omega)
    obtain ⟨h1, h2⟩ := h k ns[k] hn
    rw [List.take_add_one, hn, List.filter_append, List.map_append, ← ih]
    cases q : p ns[k] with
    | true =>
      rw [given_yes (by rw [h1, q]), h2]
      simp [q]
    | false =>
      rw [given_no (by rw [h1, q])]
      simp [q]
/-- over a list whose items stand for ns -/
theorem el_cL {α : Type} {xs : List V} {j : Nat} {vs : List Nat} (ns : List α) (em : α → V) (p : α → Bool) (g : α → V) (h : Ev tl σ H (.ref a)) (hx : SqL K H a xs) (he : xs = ns.map em) (hz : ns.length ≤ 40000) (hw : ∀ x, wipe ((wipe σ vs).set j (some x)) vs = wipe σ vs)
    (ht : ∀ n, n ∈ ns → ∀ H1, Ex H H1 → EvT t ((wipe σ vs).set j (some (em n))) H1 (p n)) (hv : ∀ n, n ∈ ns → p n = true → ∀ H1, Ex H H1 → Ev te ((wipe σ vs).set j (some (em n))) H1 (g n)) :
    EvL (tLc (iList K tl) (gName j) t te vs) σ H ((ns.filter p).map g) := by
  subst he
  have key : given (ns.map em).length (fun i => match ns[i]? with | some n => p n | none => false) (fun i => match ns[i]? with | some n => g n | none => .non) = (ns.filter p).map g := by
    rw [List.length_map, given_of (ns := ns) (p := p) (g := g) (fun i n e => by rw [e]; exact ⟨rfl, rfl⟩) ns.length (Nat.le_refl _), List.take_length]
  have at_ : ∀ (i : Nat) (x : V), (ns.map em)[i]? = some x → ∃ n, ns[i]? = some n ∧ x = em n ∧ n ∈ ns := fun i x e => by
    rw [List.getElem?_map] at e
    cases q : ns[i]? with
    | none => rw [q] at e; cases e
    | some n => rw [q] at e; exact ⟨n, rfl, (Option.some.inj e).symm, List.mem_of_getElem? q⟩
  rw [← key]
  refine el_lcL _ _ h hx (by rw [List.length_map]; exact hz) hw (fun i x H1 e hi => ?_) (fun i x H1 e hi hf => ?_)
  · obtain ⟨n, hn, rfl, hm⟩ := at_ i x hi
    rw [hn]
    exact ht n hm H1 e
  · obtain ⟨n, hn, rfl, hm⟩ := at_ i x hi
    rw [hn] at hf ⊢
    exact hv n hm hf H1 e
/-- over a new list -/
theorem el_cNL {α : Type} {xs : List V} {j : Nat} {vs : List Nat} (ns : List α) (em : α → V) (p : α → Bool) (g : α → V) (h : EvL tl σ H xs) (he : xs = ns.map em) (hz : ns.length ≤ 40000) (hw : ∀ x, wipe ((wipe σ vs).set j (some x)) vs = wipe σ vs)
    (ht : ∀ n, n ∈ ns → ∀ H1, Ex H H1 → EvT t ((wipe σ vs).set j (some (em n))) H1 (p n)) (hv : ∀ n, n ∈ ns → p n = true → ∀ H1, Ex H H1 → Ev te ((wipe σ vs).set j (some (em n))) H1 (g n)) :
    EvL (tLc (iList K tl) (gName j) t te vs) σ H ((ns.filter p).map g) := fun H0 e Q q => h H0 e _ fun pa H1 hpa e1 hp => ⟨pa, rfl, ⟨xs, SqL.of hp⟩, fun Dl hD => by
  obtain ⟨n0, h0⟩ : ∃ n : Nat, n = 0 := ⟨0, rfl⟩
  have E := el_cL (K := K) (σ := σ) (H := H1) (tl := tC (.ref pa)) (t := t) (te := te) (j := j) (vs := vs) ns em p g (ev_c) (SqL.of hp) he hz hw (fun n hn H2 e2 => ht n hn H2 ((e.trans e1).trans e2)) (fun n hn hf H2 e2 => hv n hn hf H2 ((e.trans e1).trans e2))
  obtain ⟨a', ha', _, k⟩ := E H1 (Ex.refl H1) Q (fun p' H2 hp' e2 h2 => q p' H2 (fresh_back e1 hp') (e1.trans e2) h2)
  cases ha'
  exact k Dl hD⟩
/-- over a tuple -/
theorem el_cT {α : Type} {xs : List V} {j : Nat} {vs : List Nat} (ns : List α) (em : α → V) (p : α → Bool) (g : α → V) (h : Ev tl σ H (.ref a)) (hx : SqT K H a xs) (he : xs = ns.map em) (hz : ns.length ≤ 40000) (hw : ∀ x, wipe ((wipe σ vs).set j (some x)) vs = wipe σ vs)
    (ht : ∀ n, n ∈ ns → ∀ H1, Ex H H1 → EvT t ((wipe σ vs).set j (some (em n))) H1 (p n)) (hv : ∀ n, n ∈ ns → p n = true → ∀ H1, Ex H H1 → Ev te ((wipe σ vs).set j (some (em n))) H1 (g n)) :
    EvL (tLc (iTup K tl) (gName j) t te vs) σ H ((ns.filter p).map g) := by
  subst he
  have key : given (ns.map em).length (fun i => match ns[i]? with | some n => p n | none => false) (fun i => match ns[i]? with | some n => g n | none => .non) = (ns.filter p).map g := by
    rw [List.length_map, given_of (ns := ns) (p := p) (g := g) (fun i n e => by rw [e]; exact ⟨rfl, rfl⟩) ns.length (Nat.le_refl _), List.take_length]
  have at_ : ∀ (i : Nat) (x : V), (ns.map em)[i]? = some x → ∃ n, ns[i]? = some n ∧ x = em n ∧ n ∈ ns := fun i x e => by
    rw [List.getElem?_map] at e
    cases q : ns[i]? with
    | none => rw [q] at e; cases e
    | some n => rw [q] at e; exact ⟨n, rfl, (Option.some.inj e).symm, List.mem_of_getElem? q⟩
  rw [← key]
  exact fun H0 e Q q => h H0 e _ fun H1 e1 => ⟨a, rfl, ⟨_, ex_t (e.trans e1) hx⟩, fun Dl hD =>
    lc_tup (xs := ns.map em) (Cw H1 _ _ Dl) ⟨hD, Ex.new hD, upd_same⟩ (fun i H' _ p => ex_t ((e.trans e1).trans p.2.1) hx) (fun i x H' hi p => ⟨hw x, by
      obtain ⟨n, hn, rfl, hm⟩ := at_ i x hi
      refine cw_turn p (by have := (List.getElem?_eq_some_iff.mp hn).1; omega) ?_ (fun hf => ?_)
      · rw [hn]
        exact ht n hm H1 (e.trans e1)
      · rw [hn] at hf ⊢
        exact hv n hm hf H1 (e.trans e1)⟩)
      (fun H' p => q Dl H' (fresh_back e1 p.1) (e1.trans p.2.1) p.2.2)⟩
end
theorem et_yes {σ : L2.St} {H : Hp} : EvT tYes σ H true := fun H1 _ _ q => q H1 (Ex.refl H1)
/-! ### constants of the module -/
section
variable {X : Cx}
theorem pe_gi {x : Str} {n : Int} {pos : Pos} (h : ∃ t, X.mg x = some (.int n t)) (hg : Gl X x) (hd : (x == ("__debug__" : Str)) = false := by decide) : PE X (.Name x pos) (tC (.int n)) := by
  obtain ⟨t, h⟩ := h
  exact pe_glob hg h ⟨t, rfl⟩ hd
theorem pe_gs {x y : Str} {pos : Pos} (h : ∃ t, X.mg x = some (.str y t)) (hg : Gl X x) (hd : (x == ("__debug__" : Str)) = false := by decide) : PE X (.Name x pos) (tC (.str y)) := by
  obtain ⟨t, h⟩ := h
  exact pe_glob hg h ⟨t, rfl⟩ hd
end
/-- a def keeps its promise -/
def Ok (P : Program) (w : World) (K : PySem.W.Frag) (mg : Str → Option Value) (base : Heap) (CX : CXT) (k : Nat) (f : Addr) (ps : List Str) (sp : Sp) : Prop := ∃ fd, FnOk P w K mg base CX k f fd ps sp ∧ Binds K fd ps []
/-! ### how things lie in the heap -/
def UseAt (d : Ads) (H : Hp) (v : V) (u : Mu14.Use) : Prop := ∃ a dx nm, v = .ref a ∧ H a = some (.ins d.cUse dx (F_Use (.ref nm) (nv u.rate) (nv u.lo) (nv u.hi))) ∧ H nm = some (.lst (nvs u.name))
theorem UseAt.mono {d : Ads} {H H' : Hp} {v : V} {u : Mu14.Use} (e : Ex H H') : UseAt d H v u → UseAt d H' v u := fun ⟨a, dx, nm, h1, h2, h3⟩ => ⟨a, dx, nm, h1, e _ _ h2, e _ _ h3⟩
def WorksAt (d : Ads) (H : Hp) (a : Addr) (W : Mu14.Works) : Prop := ∃ dx c u uvs, H a = some (.ins d.cWorks dx (F_Works (nv (Mu14.cap W)) (nv (W.holder.getD (0, 0)).2) (nv (W.retorts.getD 0)) (nv (Mu14.leakOf W)) (.ref c) (.ref u))) ∧
  H c = some (.tup (nvs W.charge)) ∧ H u = some (.lst uvs) ∧ Paired (UseAt d H) uvs W.uses
theorem WorksAt.mono {d : Ads} {H H' : Hp} {a : Addr} {W : Mu14.Works} (e : Ex H H') : WorksAt d H a W → WorksAt d H' a W := fun ⟨dx, c, u, uvs, h1, h2, h3, h4⟩ =>
  ⟨dx, c, u, uvs, e _ _ h1, e _ _ h2, e _ _ h3, Paired.mapP h4 fun _ _ h => h.mono e⟩
def MomentAt (d : Ads) (H : Hp) (a : Addr) (hours held : Nat) (left : List Nat) : Prop := ∃ dx l, H a = some (.ins d.cMoment dx (F_Moment (nv hours) (nv held) (.ref l))) ∧ H l = some (.tup (nvs left))
theorem MomentAt.mono {d : Ads} {H H' : Hp} {a : Addr} {p q : Nat} {l : List Nat} (e : Ex H H') : MomentAt d H a p q l → MomentAt d H' a p q l := fun ⟨dx, c, h1, h2⟩ => ⟨dx, c, e _ _ h1, e _ _ h2⟩
def ToldAt (d : Ads) (H : Hp) (a : Addr) (T : Tld) : Prop := ∃ dx m, H a = some (.ins d.cTold dx (F_Told (.ref m) (nv T.given) (nv T.burnt) (nv T.leaked) (nv T.blown) (nv T.short))) ∧ MomentAt d H m T.hours T.held T.left
theorem ToldAt.mono {d : Ads} {H H' : Hp} {a : Addr} {T : Tld} (e : Ex H H') : ToldAt d H a T → ToldAt d H' a T := fun ⟨dx, m, h1, h2⟩ => ⟨dx, m, e _ _ h1, h2.mono e⟩
end G

namespace G
open PySem PySem.Spec PyProof.Rows L2 Evl
section
variable {K : PySem.W.Frag} {σ : L2.St} {H H' : Hp} {ta tb te tx : TE} {t u : TT} {x y z v : V} {r : R2} {D : Ends} {tu tw tz : TS} {C a dx : Addr} {fs : List (Str × V)} {f m : Str} {sp : Sp} {dvs vs : List V} {E : XK} {tA tr : TA} {R : V → Hp → Prop} {RA : List V → Hp → Prop}
theorem ear_nil (h : ∀ H2, Ex H H2 → RA [] H2) : EvAR tNil σ H RA := fun H1 e Q q => q [] H1 (Ex.refl H1) (h H1 e)
theorem ear_cons (h : EvR te σ H R) (hr : ∀ v H1, Ex H H1 → R v H1 → EvAR tr σ H1 (fun ws H2 => RA (v :: ws) H2)) : EvAR (tCons te tr) σ H RA := fun H1 e Q q =>
  h H1 e _ fun v H2 e2 hv => hr v H2 (e.trans e2) hv H2 (Ex.refl H2) _ fun ws H3 e3 hw => q (v :: ws) H3 (e2.trans e3) hw
theorem ear_val (h : Ev te σ H v) (hr : ∀ H1, Ex H H1 → EvAR tr σ H1 (fun ws H2 => RA (v :: ws) H2)) : EvAR (tCons te tr) σ H RA := fun H1 e Q q =>
  h H1 e _ fun H2 e2 => hr H2 (e.trans e2) H2 (Ex.refl H2) _ fun ws H3 e3 hw => q (v :: ws) H3 (e2.trans e3) hw
theorem ear_of (h : EvA tA σ H vs) (hr : ∀ H2, Ex H H2 → RA vs H2) : EvAR tA σ H RA := fun H1 e Q q => h H1 e _ fun H2 e2 => q vs H2 e2 (hr H2 (e.trans e2))
/-- a new instance -/
def NewAt (C : Addr) (mkF : List V → List (Str × V)) (RA : List V → Hp → Prop) : V → Hp → Prop := fun v H' => ∃ x dx vs H0, v = .ref x ∧ H' x = some (.ins C dx (mkF vs)) ∧ RA vs H0 ∧ Ex H0 H'
/-- an __init__ that only stores: the new instance has its fields -/
def spInit (C : Addr) (mkF : List V → List (Str × V)) (n : Nat) : Sp := fun vs H Q _ => ∃ (p dx : Addr) (ws : List V), vs = .ref p :: ws ∧ ws.length = n ∧ H p = some (.ins C dx []) ∧ Q .non (upd H p (.ins C dx (mkF ws)))
theorem er_make {mkF : List V → List (Str × V)} {n : Nat} (h : EvAR tA σ H RA) (hl : ∀ vs H', RA vs H' → vs.length = n) : EvR (tMake C (spInit C mkF n) [] E tA) σ H (NewAt C mkF RA) := fun H1 e Q q =>
  h H1 e _ fun vs H2 e2 hv x dx nx ndx ne => by
    refine ⟨x, dx, vs ++ [], rfl, by rw [List.append_nil]; exact hl vs H2 hv, upd_same, rfl, ?_⟩
    rw [List.append_nil]
    have e3 : Ex H2 (upd (upd (upd H2 dx (.own x)) x (.ins C dx [])) x (.ins C dx (mkF vs))) := fun b o hb => by
      rw [upd_ne (ne_of_none hb nx), upd_ne (ne_of_none hb nx), upd_ne (ne_of_none hb ndx)]
      exact hb
    exact q _ _ (e2.trans e3) ⟨x, dx, vs, H2, rfl, upd_same, hv, e3⟩
theorem er_callR {P : List V → Prop} (h : EvAR tA σ H RA) (hs : ∀ vs H1, Ex H H1 → RA vs H1 → SpR sp (vs ++ dvs) H1 R) : EvR (tCall sp dvs E tA) σ H R := fun H1 e Q q =>
  h H1 e _ fun vs H2 e2 hv => hs vs H2 (e.trans e2) hv H2 (Ex.refl H2) Q (fun v H3 e3 hr => q v H3 (e2.trans e3) hr) E
/-- a new tuple, a new list, as any value -/
theorem er_tup (h : EvAR tA σ H RA) (hz : ∀ vs H', RA vs H' → vs.length ≤ 100000) : EvR (tTup tA) σ H (fun v H' => ∃ p vs H0, v = .ref p ∧ H' p = some (.tup vs) ∧ RA vs H0 ∧ Ex H0 H') := fun H1 e Q q =>
  h H1 e _ fun vs H2 e2 hv => ⟨sz_of (hz vs H2 hv), fun p hp => q (.ref p) _ (e2.trans (Ex.new hp)) ⟨p, vs, H2, rfl, upd_same, hv, Ex.new hp⟩⟩
theorem er_U {xs : List V} (h : EvU te σ H xs) : EvR te σ H (fun v H' => ∃ p, v = .ref p ∧ H' p = some (.tup xs)) := fun H1 e Q q => h H1 e Q fun p H2 _ e2 hp => q _ H2 e2 ⟨p, rfl, hp⟩
theorem er_L {xs : List V} (h : EvL te σ H xs) : EvR te σ H (fun v H' => ∃ p, v = .ref p ∧ H' p = some (.lst xs)) := fun H1 e Q q => h H1 e Q fun p H2 _ e2 hp => q _ H2 e2 ⟨p, rfl, hp⟩
theorem er_mono {R' : V → Hp → Prop} (h : EvR te σ H R) (k : ∀ v H1, Ex H H1 → R v H1 → R' v H1) : EvR te σ H R' := fun H1 e Q q => h H1 e Q fun v H2 e2 hv => q v H2 e2 (k v H2 (e.trans e2) hv)
/-- tuple(list) of a new list -/
theorem er_tupleL {xs : List V} (h : EvL te σ H xs) : EvR (tCB (fun xs H Q => ∃ p ys, xs = [.ref p] ∧ ((SqL K H p ys ∧ ∀ l, H l = none → Q (.ref l) (upd H l (.tup ys))) ∨ (SqT K H p ys ∧ Q (.ref p) H))) (tCons te tNil)) σ H (fun v H' => ∃ p, v = .ref p ∧ H' p = some (.tup xs)) := fun H1 e Q q =>
  h H1 e _ fun p H2 _ e2 hp => ⟨p, xs, rfl, .inl ⟨SqL.of hp, fun l hl => q _ _ (e2.trans (Ex.new hl)) ⟨l, rfl, upd_same⟩⟩⟩
/-- min, max of two -/
theorem ev_min2 {i j : Nat} (ha : Ev ta σ H (nv i)) (hb : Ev tb σ H (nv j)) : Ev (tCB (fun xs H Q => ∃ i j, xs = [.int i, .int j] ∧ Q (.int (if j < i then j else i)) H) (tCons ta (tCons tb tNil))) σ H (nv (min i j)) := fun H1 e Q q =>
  ha H1 e _ fun H2 e2 => hb H2 (e.trans e2) _ fun H3 e3 => ⟨(i : Int), (j : Int), rfl, by
    have k : (if (j : Int) < (i : Int) then (j : Int) else (i : Int)) = ((min i j : Nat) : Int) := by
      split <;> omega
    rw [k]
    exact q H3 (e2.trans e3)⟩
theorem ev_max0 {j : Int} (ha : Ev ta σ H (.int 0)) (hb : Ev tb σ H (.int j)) : Ev (tCB (fun xs H Q => ∃ i j, xs = [.int i, .int j] ∧ Q (.int (if j > i then j else i)) H) (tCons ta (tCons tb tNil))) σ H (nv j.toNat) := fun H1 e Q q =>
  ha H1 e _ fun H2 e2 => hb H2 (e.trans e2) _ fun H3 e3 => ⟨0, j, rfl, by
    have k : (if j > 0 then j else 0) = ((j.toNat : Nat) : Int) := by
      split <;> omega
    rw [k]
    exact q H3 (e2.trans e3)⟩
/-- numbers that are not below 0 -/
theorem ev_addN {i j : Nat} (ha : Ev ta σ H (nv i)) (hb : Ev tb σ H (nv j)) : Ev (tOp (rI0 fun i j => .int (i + j)) ta tb) σ H (nv (i + j)) := ev_op ha hb (rv_int (by show V.int _ = V.int _; rw [Int.natCast_add]))
theorem ev_subN {i j : Nat} (ha : Ev ta σ H (nv i)) (hb : Ev tb σ H (nv j)) (hj : j ≤ i) : Ev (tOp (rI0 fun i j => .int (i - j)) ta tb) σ H (nv (i - j)) := ev_op ha hb (rv_int (by show V.int _ = V.int _; congr 1; omega))
theorem ev_eqN {i j : Nat} (ha : Ev ta σ H (nv i)) (hb : Ev tb σ H (nv j)) : Ev (tOp rEq ta tb) σ H (.bl (decide (i = j))) := ev_cast (ev_op ha hb (rv_eq rfl)) (by
  congr 1
  apply decide_eq_decide.mpr
  constructor
  · intro h
    have := V.int.inj h
    omega
  · intro h
    rw [h])
theorem ev_leN {i j : Nat} (ha : Ev ta σ H (nv i)) (hb : Ev tb σ H (nv j)) : Ev (tOp (rI0 fun i j => .bl (decide (i ≤ j))) ta tb) σ H (.bl (decide (i ≤ j))) := ev_op ha hb (rv_int (by show V.bl _ = V.bl _; congr 1; apply decide_eq_decide.mpr; omega))
theorem ev_ltN {i j : Nat} (ha : Ev ta σ H (nv i)) (hb : Ev tb σ H (nv j)) : Ev (tOp (rI0 fun i j => .bl (decide (i < j))) ta tb) σ H (.bl (decide (i < j))) := ev_op ha hb (rv_int (by show V.bl _ = V.bl _; congr 1; apply decide_eq_decide.mpr; omega))
theorem ev_gtN {i j : Nat} (ha : Ev ta σ H (nv i)) (hb : Ev tb σ H (nv j)) : Ev (tOp (rI0 fun i j => .bl (decide (j < i))) ta tb) σ H (.bl (decide (j < i))) := ev_op ha hb (rv_int (by show V.bl _ = V.bl _; congr 1; apply decide_eq_decide.mpr; omega))
theorem ev_neN {i j : Nat} (ha : Ev ta σ H (nv i)) (hb : Ev tb σ H (nv j)) : Ev (tOp rNe ta tb) σ H (.bl (!decide (i = j))) := ev_cast (ev_op ha hb (rv_ne rfl)) (by
  congr 2
  apply decide_eq_decide.mpr
  constructor
  · intro h
    have := V.int.inj h
    omega
  · intro h
    rw [h])
theorem atN {xs : List Nat} {i : Int} {j n : Nat} (hi : i = (j : Int)) (h : xs[j]? = some n) : atI (nvs xs) i = some (nv n) := by
  subst hi
  exact atI_nat (nvs_get h)
theorem ev_c0 {n : Nat} : Ev (tC (.int (n : Int))) σ H (nv n) := ev_c
end
end G

namespace L2
open PySem PySem.Spec PyProof.Rows
/-! ### t * 1: the tuple itself -/
theorem tuple_mul1 (l : Addr) (items : Array Value) (n : Nat) (dd : Option Addr) (sl : Array (Option Value)) (x : Int) (u : Tok) (c0 : (decide (x < -(2 ^ 63)) || decide (x ≥ 2 ^ 63)) = false) (c1 : (items.isEmpty || x == 1) = true) :
    Meets (Builtin.«tuple.__mul__» ⟨[.ref l, .int x u], []⟩) (fun _ R s => s.heap.get? l = some { cls := .type "tuple", dict := dd, data := .seq items n, slots := sl } ∧ R (.ok (.ret (Value.ref l))) s) :=
  .of_wp fun prog w A R s h => by
    obtain ⟨hp, g, d, tk, os⟩ := s
    obtain ⟨hl, h⟩ := h
    have f1 := AutoSeq1.idx_int
    wp_walk using wpAny_loadPart' hl
    repeat (first
      | (refine wpAny_ite_false (decide_eq_false (by rw [c0]; exact Bool.false_ne_true)) ?_; wp_walk using wpAny_loadPart' hl)
      | (refine wpAny_ite_true (decide_eq_true c1) ?_; wp_walk using wpAny_loadPart' hl))
    exact ⟨_, rfl, h⟩
section
variable {X : Cx}
/-- t * k, k at least 1 -/
def rRepA (K : PySem.W.Frag) : R2 := fun x y H Q => ∃ l k xs, x = .ref l ∧ y = .int k ∧ SqT K H l xs ∧ xs ≠ [] ∧ 1 ≤ k ∧ k ≤ 1000 ∧ xs.length ≤ 1000 ∧ (k = 1 → Q (.ref l) H) ∧ (2 ≤ k → ∀ p, H p = none → Q (.ref p) (upd H p (.tup (List.replicate k.toNat xs).flatten)))
theorem op_repA : OpR X (binaryOp .Mult) (rRepA X.K) := by
  intro pins s σ H x y v u Q I rx ry h
  obtain ⟨l, k, xs, rfl, rfl, hT, hne, h1, h2, hz, q1, q2⟩ := h
  by_cases hk : 2 ≤ k
  · exact op_repT pins s σ H _ _ v u Q I rx ry ⟨l, k, xs, rfl, rfl, hT, hne, hk, h2, hz, q2 hk⟩
  · have hk1 : k = 1 := by omega
    subst hk1
    cases rx
    obtain ⟨t, rfl⟩ := ry
    obtain ⟨its, r, ⟨⟨cls, dd, data, sl⟩, ho, hc, n, hd⟩, hs⟩ := I.tuple hT
    simp only at hc hd
    subst hc hd
    refine wpAny_binaryOp_repeat_ref (T := "tuple") (U := "int") (by decide) ⟨_, ho, rfl⟩ (fun s' => typeIs_int s' 1 t) noFill_tuple_mul F.fills_int_mul F.slot_int_rmul repeat_tuple F.slot_int_index.lookup
      (call_meets F.slot_int_rmul (typeIs_int s 1 t) F.entry_int_rmul (F.args_int_rmul_2 _ _) (int_rmul_tuple 1 t l its.toArray n dd sl)
        ⟨ho, rfl, ⟨_, ho, rfl⟩, call_meets F.slot_tuple_mul ⟨_, ho, rfl⟩ F.entry_tuple_mul (F.args_tuple_mul_2 _ _) (tuple_mul1 l its.toArray n dd sl 1 t (by decide) (by simp)) ⟨ho, ?_⟩⟩)
    exact ⟨.ref l, H, I, rfl, q1 rfl⟩
end
end L2

/-! ### sorted of a tuple of ints -/
namespace SrtO
open PySem PyProof.Rows Srt
section
variable {prog : Program} {w : World} {A : Around} {E : Value → Shared → Prop} {s : Shared}
theorem collect_tup {l : Addr} {vs : List Value} {Q : List Value → Shared → Prop} (hl : IsTup s.heap l vs.toArray)
    (h : Q vs { s with heap := (s.heap.push (seqObj "list" #[] 0)).update s.heap.objs.size (Obj.mapSeq (· ++ vs.toArray)) }) (hsz : vs.length ≤ sizeLine) :
    wpAny (model prog w) A (collect (.ref l)) Q E s := by
  obtain ⟨o, ho, hc, n, hd⟩ := id hl
  unfold collect
  refine wpAny_bind (wpAny_runValue (codeAny_builtin entry_proto_collect' ?_))
  show wpAny _ _ (do again (.builtin "list.__iadd__" ⟨[← newList [], .ref l], []⟩)) _ _ s
  refine wpAny_bind (wpAny_newList (wpAny_pure ⟨Code.quiet_builtin _ (by decide +kernel), codeAny_builtin entry_list_iadd' ?_⟩))
  show wpAny _ _ (Builtin.List.listExtendWith (.ref s.heap.objs.size) (.ref l) (.ref s.heap.objs.size)) _ _ { s with heap := s.heap.push (seqObj "list" #[] 0) }
  unfold Builtin.List.listExtendWith
  have ho' : (s.heap.push (seqObj "list" #[] 0)).get? l = some o := Heap.get?_push_of_some _ ho
  refine wpAny_bind (wpAny_typeOf (T := "tuple") ⟨o, ho', hc⟩ ?_)
  have ht : (Value.type "tuple" == Value.type "tuple") = true := by rfl
  rw [if_pos (by rw [ht]; simp)]
  refine wpAny_bind (listItems_at ho' hd ?_)
  refine wpAny_bind (listItems_at (xs := #[]) (n := 0) (Heap.get?_push_size _ rfl) rfl ?_)
  rw [if_neg (by simp)]
  refine wpAny_bind (listUpdate_at (xs := #[]) (n := 0) (Heap.get?_push_size _ rfl) rfl ?_ (Nat.zero_le _) (by show (#[] ++ vs.toArray).size ≤ sizeLine + 1; simp only [Array.size_append, List.size_toArray, List.length_nil]; omega))
  refine wpAny_pure ?_
  show wpAny (model prog w) A (do
      let o ← load s.heap.objs.size
      match o.data with
      | .seq xs _ => pure xs.toList
      | _ => unsupported "internal:collect") Q E { s with heap := (s.heap.push (seqObj "list" #[] 0)).update s.heap.objs.size (Obj.mapSeq (· ++ vs.toArray)) }
  refine wpAny_bind (wpAny_load (get?_update_seq (Heap.get?_push_size _ rfl) _) ?_)
  show wpAny _ _ (pure ((#[] : Array Value) ++ vs.toArray).toList) Q E _
  rw [show ((#[] : Array Value) ++ vs.toArray).toList = vs by simp]
  exact wpAny_pure h
theorem sorted_ordT {l : Addr} {vs : List Value} {ltv : Value → Value → Bool} {Q : Value → Shared → Prop} (O : Swo ltv) (hl : IsTup s.heap l vs.toArray) (hz : vs.length ≤ sizeLine)
    (hS : 2 ≤ vs.length → ∀ (h1 : Heap) (a : Addr), h1.get? a = some (seqObj "list" vs.toArray 0) → (∀ b o, s.heap.get? b = some o → b ≠ a ∧ h1.get? b = some o) → SortableO prog w A.in1.in1 { s with heap := h1 } a vs ltv)
    (h : ∀ out : List Value, Srtd ltv out → Stb ltv out vs → Q (.ref (s.heap.objs.size + 1)) { s with heap := sortedAll s.heap vs out.toArray }) :
    wpAny (model prog w) A (call (.builtin "sorted") [.ref l]) Q E s := by
  refine Calls.call_function_entry kind_sorted plain_sorted entry_sorted (args_sorted1 _) ?_
  unfold Builtin.«sorted»
  refine wpAny_bind (m := checkCount "sorted" 1 1 _) (wpAny_pure ?_)
  refine wpAny_bind (collect_tup hl ?_ hz)
  refine wpAny_bind (wpAny_newList ?_ hz)
  have hsz : ((s.heap.push (seqObj "list" #[] 0)).update s.heap.objs.size (Obj.mapSeq (· ++ vs.toArray))).objs.size = s.heap.objs.size + 1 := by
    rw [Heap.size_update, size_push']
  have hoL : (((s.heap.push (seqObj "list" #[] 0)).update s.heap.objs.size (Obj.mapSeq (· ++ vs.toArray))).push (seqObj "list" vs.toArray 0)).get? (s.heap.objs.size + 1) = some (seqObj "list" vs.toArray 0) := by
    rw [← hsz]; exact Heap.get?_push_size _ rfl
  have keep : ∀ b o, s.heap.get? b = some o → b ≠ s.heap.objs.size + 1 ∧ (((s.heap.push (seqObj "list" #[] 0)).update s.heap.objs.size (Obj.mapSeq (· ++ vs.toArray))).push (seqObj "list" vs.toArray 0)).get? b = some o := fun b o q => by
    have hlt : b < s.heap.objs.size := Heap.lt_size q
    refine ⟨Nat.ne_of_lt (Nat.lt_succ_of_lt hlt), Heap.get?_push_of_some _ ?_⟩
    rw [Heap.get?_update_ne _ _ _ _ (Nat.ne_of_lt hlt)]
    exact Heap.get?_push_of_some _ q
  show wpAny _ _ _ _ _ { s with heap := ((s.heap.push (seqObj "list" #[] 0)).update s.heap.objs.size (Obj.mapSeq (· ++ vs.toArray))).push (seqObj "list" vs.toArray 0) }
  rw [hsz]
  refine wpAny_bind (wpAny_holding (wpAny_call_entry slot_list_sort ⟨_, hoL, rfl⟩ entry_list_sort (list_sort_ord O hoL hz (fun h2 => hS h2 _ _ hoL keep) fun out hs hb => ⟨_, rfl, ?_⟩) (args_list_sort _)))
  exact wpAny_pure ⟨_, rfl, h out hs hb⟩
end
end SrtO
namespace L2
open PySem PySem.Spec PyProof.Rows
def rSortedTI (K : PySem.W.Frag) : List V → Hp → VK → Prop := fun vs H Q => ∃ (a : Addr) (ns : List Int), vs = [V.ref a] ∧ SqT K H a (ns.map V.int) ∧
  ∀ (ns' : List Int) (p : Addr), ns'.Perm ns → ns'.Pairwise (· ≤ ·) → H p = none → Q (.ref p) (upd H p (.lst (ns'.map V.int)))
theorem cr_sortedTI {X : Cx} : CallR X (.builtin "sorted") (rSortedTI X.K) := by
  intro pins s σ H vs us Q I r h
  obtain ⟨a, ns, rfl, hs, q⟩ := h
  obtain ⟨its, rv, hl, hz⟩ := I.tuple hs
  rw [Vals.ref1 r]
  have hi := rv.ints
  refine SrtO.sorted_ordT SrtO.swo_int hl (by rw [← rv.length]; exact hz) (fun h2 h1 a' _ _ => SrtO.ints_sortable hi h2) fun out h1 h2 => ?_
  obtain ⟨k1, k2, k3⟩ := SrtO.ints_out hi h1 h2
  obtain ⟨ep, he'⟩ := PyProof.Rows.sortedAll_at s.heap its out.toArray
  have hlen : ((out.map SrtO.iv).map V.int).length ≤ sizeLine := by
    rw [List.length_map, k2.length_eq]
    rw [List.length_map] at hz
    exact hz
  exact ⟨.ref _, upd H (s.heap.objs.size + 1) (.lst ((out.map SrtO.iv).map V.int)), I.laid (t' := s.toks) (fun _ _ => PyProof.Rows.sortedAll_old) (Nat.le_succ _) ⟨hlen, out, ep, vals_of_ints k1, he'⟩, rfl, q _ _ k2 k3 (I.hok.fresh (Nat.le_succ _))⟩
end L2

namespace G
open PySem PySem.Spec PyProof.Rows L2 Evl
/-! ### a dict whose keys are pairs (a number, a tuple of numbers), its values tuples (two numbers, a tuple of numbers) -/
def nk (k : PKey) : NestedKey := .tup [.num (k.1 : Int), .tup (k.2.map fun (n : Nat) => NestedKey.num (n : Int))]
theorem nums_inj : ∀ {a b : List Nat}, (a.map fun (n : Nat) => NestedKey.num (n : Int)) = (b.map fun (n : Nat) => NestedKey.num (n : Int)) → a = b
  | [], [], _ => rfl
  | [], _ :: _, h => by cases h
  | _ :: _, [], h => by cases h
  | x :: a, y :: b, h => by
    rw [List.map_cons, List.map_cons] at h
    obtain ⟨h1, h2⟩ := List.cons.inj h
    have e : (x : Int) = (y : Int) := NestedKey.num.inj h1
    rw [nums_inj h2, Int.ofNat.inj e]
theorem nk_inj {a b : PKey} (h : nk a = nk b) : a = b := by
  obtain ⟨a1, a2⟩ := a
  obtain ⟨b1, b2⟩ := b
  have h' := NestedKey.tup.inj h
  obtain ⟨h1, h2⟩ := List.cons.inj h'
  obtain ⟨h3, _⟩ := List.cons.inj h2
  have e : (a1 : Int) = (b1 : Int) := NestedKey.num.inj h1
  have e2 : a2 = b2 := nums_inj (NestedKey.tup.inj h3)
  rw [Int.ofNat.inj e, e2]
theorem nums_depth : ∀ l : List Nat, NestedKey.depthAll (l.map fun (n : Nat) => NestedKey.num (n : Int)) = 0
  | [] => by simp [NestedKey.depthAll]
  | n :: l => by
    rw [List.map_cons, NestedKey.depthAll, NestedKey.depth, nums_depth l]
    rfl
theorem nk_depth (k : PKey) : (nk k).depth ≤ 8 := by
  unfold nk
  simp only [NestedKey.depth, NestedKey.depthAll, nums_depth]
  decide
/-- at a: the object o -/
def ndo (a : Addr) (o : Obj) : HO := .ext fun h => h.get? a = some o
theorem ndo_ok {P : Program} {w : World} {H : Hp} {h : Heap} {a : Addr} {o : Obj} (e : h.get? a = some o) : ObjOk P w H h a (ndo a o) := ⟨e, ⟨o, e⟩, fun _ _ z k => k _ z⟩
theorem ndo_at {P : Program} {w : World} {H : Hp} {h : Heap} {a : Addr} {o : Obj} (x : HOk P w H h) (e : H a = some (ndo a o)) : h.get? a = some o := by
  have z : ObjOk P w H h a (.ext fun h => h.get? a = some o) := x a _ e
  exact z.1
def KeyAt (H : Hp) (a : Addr) (k : PKey) : Prop := ∃ l, H a = some (.tup [nv k.1, .ref l]) ∧ H l = some (.tup (nvs k.2))
def ValAt (H : Hp) (a : Addr) (v : PVal) : Prop := ∃ l, H a = some (.tup [nv v.1, nv v.2.1, .ref l]) ∧ H l = some (.tup (nvs v.2.2))
theorem KeyAt.mono {H H' : Hp} {a : Addr} {k : PKey} (e : Ex H H') : KeyAt H a k → KeyAt H' a k := fun ⟨l, h1, h2⟩ => ⟨l, e _ _ h1, e _ _ h2⟩
theorem ValAt.mono {H H' : Hp} {a : Addr} {v : PVal} (e : Ex H H') : ValAt H a v → ValAt H' a v := fun ⟨l, h1, h2⟩ => ⟨l, e _ _ h1, e _ _ h2⟩
abbrev Ent := NestedKey × Addr × Value
def EntAt (H : Hp) (kv : PKey × PVal) (x : Ent) : Prop := x.1 = nk kv.1 ∧ KeyAt H x.2.1 kv.1 ∧ ∃ va, x.2.2 = .ref va ∧ ValAt H va kv.2
theorem EntAt.mono {H H' : Hp} {kv : PKey × PVal} {x : Ent} (e : Ex H H') : EntAt H kv x → EntAt H' kv x := fun ⟨h1, h2, va, h3, h4⟩ => ⟨h1, h2.mono e, va, h3, h4.mono e⟩
structure DObj (P : Program) (w : World) (o : Obj) (xs : List Ent) : Prop where
  ex : o.ExactDict
  dat : ∃ es ep, o.data = .dict es ep ∧ es.toList = xs.map (entryOfKey (nestedKind P w))
  nd : (xs.map (·.1)).Nodup
def TabO (P : Program) (w : World) (H : Hp) (a : Addr) (o : Obj) (t : Tab) : Prop := ∃ xs, H a = some (ndo a o) ∧ (a == sysModules) = false ∧ DObj P w o xs ∧ Paired (EntAt H) t xs
def TabAt (P : Program) (w : World) (H : Hp) (a : Addr) (t : Tab) : Prop := ∃ o, TabO P w H a o t
section
variable {P : Program} {w : World} {H H' : Hp} {a : Addr} {o : Obj} {t : Tab}
theorem TabO.mono (e : Ex H H') : TabO P w H a o t → TabO P w H' a o t := fun ⟨xs, h1, h2, h3, h4⟩ => ⟨xs, e _ _ h1, h2, h3, Paired.mapP h4 fun _ _ h => h.mono e⟩
theorem TabAt.mono (e : Ex H H') : TabAt P w H a t → TabAt P w H' a t := fun ⟨o, h⟩ => ⟨o, h.mono e⟩
theorem nums_all {h : Heap} : ∀ {l : List Nat} {us : List Value}, Vals (nvs l) us → NestedAll h (l.map fun (n : Nat) => NestedKey.num (n : Int)) us
  | [], _, r => by
    cases r
    exact .nil
  | n :: l, _, r => by
    cases r with
    | cons rv rt =>
      obtain ⟨tk, rfl⟩ := rv
      exact .cons (.int _ _) (nums_all rt)
theorem key_is {h : Heap} {ka : Addr} {k : PKey} (x : HOk P w H h) (hk : KeyAt H ka k) : (nestedKind P w).is h (nk k) ka := by
  obtain ⟨l, h1, h2⟩ := hk
  obtain ⟨_, its, r, o, ho, hc, n, hd⟩ := x ka _ h1
  obtain ⟨_, its2, r2, o2, ho2, hc2, n2, hd2⟩ := x l _ h2
  refine ⟨?_, nk_depth k⟩
  cases r with
  | cons r1 rr =>
    cases rr with
    | cons r3 rn =>
      cases rn
      obtain ⟨tk, rfl⟩ := r1
      cases r3
      exact .tup ho hc hd (.cons (.int _ _) (.cons (.tup ho2 hc2 hd2 (by simpa using nums_all r2)) .nil))
theorem tab_dict {h : Heap} {xs : List Ent} (x : HOk P w H h) (h1 : H a = some (ndo a o)) (D : DObj P w o xs) (hp : Paired (EntAt H) t xs) : h.DictOfH (nestedKind P w) a xs := by
  obtain ⟨es, ep, hd, he⟩ := D.dat
  refine ⟨o, es, ep, ndo_at x h1, D.ex, hd, he, ?_, D.nd⟩
  intro y hy
  have key : ∀ {t : Tab} {xs : List Ent}, Paired (EntAt H) t xs → y ∈ xs → (nestedKind P w).is h y.1 y.2.1 := by
    intro t xs hp
    induction hp with
    | nil => intro hy; cases hy
    | cons r _ ih =>
      intro hy
      rcases List.mem_cons.mp hy with e | e
      · subst e
        rw [r.1]
        exact key_is x r.2.1
      · exact ih e
  exact key hp hy
/-- what is found -/
theorem ent_find : ∀ {t : Tab} {xs : List Ent} {k : PKey}, Paired (EntAt H) t xs → (lkp t k = none ∧ atKey xs (nk k) = none) ∨ ∃ v p va, lkp t k = some v ∧ atKey xs (nk k) = some p ∧ p.2 = .ref va ∧ ValAt H va v
  | _, _, k, .nil => .inl ⟨rfl, rfl⟩
  | kv :: t, x :: xs, k, .cons r rt => by
    by_cases h : kv.1 = k
    · refine .inr ⟨kv.2, x.2, ?_⟩
      obtain ⟨h1, h2, va, h3, h4⟩ := r
      refine ⟨va, by simp [lkp, h], ?_, h3, h4⟩
      have : x.1 = nk k := by rw [h1, h]
      simp [atKey, this]
    · have hx : x.1 ≠ nk k := fun z => h (nk_inj (r.1.symm.trans z))
      have e1 : lkp (kv :: t) k = lkp t k := by simp [lkp, h]
      have e2 : atKey (x :: xs) (nk k) = atKey xs (nk k) := by simp [atKey, hx]
      rw [e1, e2]
      exact ent_find rt
theorem any_lkp {t : Tab} {k : PKey} : t.any (fun kv => decide (kv.1 = k)) = (lkp t k).isSome := by
  induction t with
  | nil => rfl
  | cons kv t ih =>
    by_cases h : kv.1 = k
    · simp [lkp, h]
    · have e : lkp (kv :: t) k = lkp t k := by simp [lkp, h]
      rw [List.any_cons, e, ← ih]
      simp [h]
theorem ent_map {va : Addr} {v : PVal} {k : PKey} (hv : ValAt H va v) : ∀ {t : Tab} {xs : List Ent}, Paired (EntAt H) t xs → Paired (EntAt H) (t.map fun kv => if kv.1 = k then (kv.1, v) else kv) (xs.map (putAt (nk k) (.ref va)))
  | _, _, .nil => .nil
  | kv :: t, x :: xs, .cons r rt => by
    rw [List.map_cons, List.map_cons]
    refine .cons ?_ (ent_map hv rt)
    by_cases h : kv.1 = k
    · have hx : x.1 = nk k := by rw [r.1, h]
      rw [if_pos h]
      have e : putAt (nk k) (.ref va) x = (x.1, x.2.1, .ref va) := by simp [putAt, hx]
      rw [e]
      exact ⟨r.1, r.2.1, va, rfl, hv⟩
    · have hx : x.1 ≠ nk k := fun z => h (nk_inj (r.1.symm.trans z))
      rw [if_neg h]
      have e : putAt (nk k) (.ref va) x = x := by simp [putAt, hx]
      rw [e]
      exact r
theorem ent_put {va ka : Addr} {v : PVal} {k : PKey} {t : Tab} {xs : List Ent} (hv : ValAt H va v) (hk : KeyAt H ka k) (hp : Paired (EntAt H) t xs) : Paired (EntAt H) (putT t k v) (storedH xs (nk k) ka (.ref va)) := by
  unfold putT
  rw [any_lkp]
  rcases ent_find (k := k) hp with ⟨h1, h2⟩ | ⟨v', p, va', h1, h2, _⟩
  · rw [h1, storedH_new h2]
    exact Paired.snoc hp ⟨rfl, hk, va, rfl, hv⟩
  · rw [h1, storedH_old h2]
    exact ent_map hv hp
theorem tab_of {h : Heap} {xs : List Ent} (hd : h.DictOfH (nestedKind P w) a xs) : ∃ o, h.get? a = some o ∧ DObj P w o xs := by
  obtain ⟨o, es, ep, ho, hx, hdt, he, _, hn⟩ := hd
  exact ⟨o, ho, hx, ⟨es, ep, hdt, he⟩, hn⟩
end
section
variable {X : Cx}
theorem room_of {A : Around} (hu : A.units + 64 < cLine) : A.in1.units + 8 < cLine := by
  show A.units + 1 + 8 < cLine
  omega
/-- k not in d -/
def rNotInN (P : Program) (w : World) : R2 := fun x y H Q => ∃ ka k a t, x = .ref ka ∧ y = .ref a ∧ KeyAt H ka k ∧ TabAt P w H a t ∧ Q (.bl (!(lkp t k).isSome)) H
theorem op_notInN (hu : X.A.units + 64 < cLine) : OpR X (compareOp .NotIn) (rNotInN X.prog X.w) := by
  intro pins s σ H x y v u Q I rx ry h
  obtain ⟨ka, k, a, t, rfl, rfl, hk, ⟨o, xs, h1, h2, D, hp⟩, q⟩ := h
  cases rx
  cases ry
  have hd := tab_dict I.hok h1 D hp
  refine notIn_keyed (knd := nestedKind X.prog X.w) (k := nk k) (room_of hu) (key_is I.hok hk) h2 ⟨xs, hd, rfl⟩ ?_
  rw [valueAt_pairsH, Option.isSome_map]
  have e : (atKey xs (nk k)).isSome = (lkp t k).isSome := by
    rcases ent_find (k := k) hp with ⟨e1, e2⟩ | ⟨v', p, va', e1, e2, _⟩
    · rw [e1, e2]; rfl
    · rw [e1, e2]; rfl
  rw [e]
  exact ⟨.bl _, H, I.tok _, rfl, q⟩
/-- d[k] -/
def tGetN (P : Program) (w : World) (td ty : TE) : TE := fun σ H Q => td σ H fun x H1 => ty σ H1 fun y H2 => ∃ ka k a t v, x = .ref a ∧ y = .ref ka ∧ KeyAt H2 ka k ∧ TabAt P w H2 a t ∧ lkp t k = some v ∧ ∀ va, ValAt H2 va v → Q (.ref va) H2
theorem pe_getN {o i : Expr} {pos : Pos} {td ty : TE} (hu : X.A.units + 64 < cLine) (ho : PE X o td) (hi : PE X i ty) (hs : NoSl i) : PE X (.Subscript o i pos) (tGetN X.prog X.w td ty) := by
  refine ⟨fun pins s σ H Q I h => ?_⟩
  refine subD_of PySem.F.slot_dict_getitem.lookup hs (thn (ho.run pins s σ H _ I h) fun u s1 ⟨x, H1, I1, rx, q1⟩ => thn (hi.run pins s1 σ H1 _ I1 q1) fun iv s2 ⟨y, H2, I2, ry, ka, k, a, t, v, ex, ey, hk, ⟨ob, xs, h1, h2, D, hp⟩, hl, q2⟩ => ?_)
  subst ex
  subst ey
  obtain rfl : u = Value.ref a := rx
  obtain rfl : iv = Value.ref ka := ry
  have hd := tab_dict I2.hok h1 D hp
  refine ⟨hd.typeIs, ?_⟩
  rcases ent_find (k := k) hp with ⟨e1, e2⟩ | ⟨v', p, va, e1, e2, e3, e4⟩
  · rw [hl] at e1; cases e1
  · rw [hl] at e1
    cases e1
    refine wpAny_getItem_heap (knd := nestedKind X.prog X.w) (k := nk k) (room_of hu) (key_is I2.hok hk) hd e2 ?_
    rw [e3]
    exact ⟨.ref va, H2, I2.tok _, rfl, q2 va e4⟩
/-- d[k] = v -/
def rSetN (P : Program) (w : World) : V → V → V → Hp → (Hp → Prop) → Prop := fun o i v H Q => ∃ a ka k t va vl, o = .ref a ∧ i = .ref ka ∧ v = .ref va ∧ KeyAt H ka k ∧ ValAt H va vl ∧ TabAt P w H a t ∧ t.length ≤ 100000 ∧
  ∀ H', (∀ b, b ≠ a → H' b = H b) → TabAt P w H' a (putT t k vl) → Q H'
theorem keyAt_ne {H H' : Hp} {a ka : Addr} {k : PKey} {o : Obj} (h : H a = some (ndo a o)) (e : ∀ b, b ≠ a → H' b = H b) : KeyAt H ka k → KeyAt H' ka k := fun ⟨l, h1, h2⟩ =>
  ⟨l, (e ka (fun z => by rw [z, h] at h1; cases h1)).trans h1, (e l (fun z => by rw [z, h] at h2; cases h2)).trans h2⟩
theorem valAt_ne {H H' : Hp} {a ka : Addr} {k : PVal} {o : Obj} (h : H a = some (ndo a o)) (e : ∀ b, b ≠ a → H' b = H b) : ValAt H ka k → ValAt H' ka k := fun ⟨l, h1, h2⟩ =>
  ⟨l, (e ka (fun z => by rw [z, h] at h1; cases h1)).trans h1, (e l (fun z => by rw [z, h] at h2; cases h2)).trans h2⟩
theorem entAt_ne {H H' : Hp} {a : Addr} {o : Obj} (h : H a = some (ndo a o)) (e : ∀ b, b ≠ a → H' b = H b) {kv : PKey × PVal} {x : Ent} : EntAt H kv x → EntAt H' kv x := fun ⟨h1, h2, va, h3, h4⟩ =>
  ⟨h1, keyAt_ne h e h2, va, h3, valAt_ne h e h4⟩
theorem set_N (hu : X.A.units + 64 < cLine) : PSet X (rSetN X.prog X.w) := by
  intro pins s σ H o i v ov iv u Q I ro ri rv h
  obtain ⟨a, ka, k, t, va, vl, rfl, rfl, rfl, hk, hv, ⟨ob, xs, h1, h2, D, hp⟩, hz, q⟩ := h
  cases ro
  cases ri
  cases rv
  have hd := tab_dict I.hok h1 D hp
  have hl : t.length = xs.length := Paired.length hp
  refine wpAny_setItem_heap (knd := nestedKind X.prog X.w) (k := nk k) (hsz := by rw [← hl, sizeLine_eq]; omega) (room_of hu) (key_is I.hok hk) hd fun h' hm hs => ?_
  obtain ⟨o', ho', D'⟩ := tab_of hm
  have ne : ∀ b, b ≠ a → upd H a (ndo a o') b = H b := fun b hb => upd_ne hb
  refine ⟨upd H a (ndo a o'), I.write (x := a) (e := a) (by rw [h1]; exact True.intro) (.inl rfl) (fun b q hb z => (hs.2 b hb).trans z) ⟨_, ho'⟩ (ndo_ok ho'), q _ ne ⟨o', _, upd_same, h2, D', ?_⟩⟩
  exact Paired.mapP (ent_put hv hk hp) fun _ _ r => entAt_ne h1 ne r
/-- {} -/
def tNewN (P : Program) (w : World) : TE := fun _ H Q => ∀ p, H p = none → ∀ H', (∀ b, b ≠ p → H' b = H b) → TabAt P w H' p [] → Q (.ref p) H'
theorem empty_dobj (P : Program) (w : World) : DObj P w { cls := .type "dict", data := .dict #[] } [] := ⟨⟨rfl, rfl, rfl⟩, ⟨#[], 0, rfl, rfl⟩, List.nodup_nil⟩
theorem pe_newN {pos : Pos} : PE X (.Dict [] [] pos) (tNewN X.prog X.w) := ⟨fun pins s σ H Q I h => by
  have ho : (s.heap.push { cls := .type "dict", data := .dict #[] }).get? s.heap.objs.size = some { cls := .type "dict", data := .dict #[] } := Heap.get?_push_size _ rfl
  exact wpAny_Dict_empty ⟨.ref s.heap.objs.size, _, I.laid (a := s.heap.objs.size) (o := ndo s.heap.objs.size { cls := .type "dict", data := .dict #[] }) (t' := s.toks) (fun _ _ q => Heap.get?_push_of_some _ q) (Nat.le_refl _) (ndo_ok ho), rfl,
    h _ (I.hok.fresh (Nat.le_refl _)) _ (fun b hb => upd_ne hb) ⟨_, [], upd_same, beq_eq_false_iff_ne.mpr (Ne.symm (Nat.ne_of_lt I.big)), empty_dobj _ _, .nil⟩⟩⟩
/-- {k: v} -/
def tDispN (P : Program) (w : World) (tk tv : TE) : TE := fun σ H Q => ∀ p, H p = none → ∀ H', (∀ b, b ≠ p → H' b = H b) → TabAt P w H' p [] →
  tk σ H' fun x H1 => tv σ H1 fun y H2 => ∃ ka k va vl, x = .ref ka ∧ y = .ref va ∧ KeyAt H2 ka k ∧ ValAt H2 va vl ∧ TabAt P w H2 p [] ∧ ∀ H3, (∀ b, b ≠ p → H3 b = H2 b) → TabAt P w H3 p [(k, vl)] → Q (.ref p) H3
theorem pe_dispN {ke ve : Expr} {pos : Pos} {tk tv : TE} (hu : X.A.units + 64 < cLine) (hk : PE X ke tk) (hv : PE X ve tv) : PE X (.Dict [some ke] [ve] pos) (tDispN X.prog X.w tk tv) := by
  refine ⟨fun pins s σ H Q I h => ?_⟩
  have hn := I.hok.fresh (Nat.le_refl s.heap.objs.size)
  have ho : (s.heap.push { cls := .type "dict", data := .dict #[] }).get? s.heap.objs.size = some { cls := .type "dict", data := .dict #[] } := Heap.get?_push_size _ rfl
  have I1 := I.laid (a := s.heap.objs.size) (o := ndo s.heap.objs.size { cls := .type "dict", data := .dict #[] }) (h' := s.heap.push { cls := .type "dict", data := .dict #[] }) (t' := s.toks) (fun _ _ q => Heap.get?_push_of_some _ q) (Nat.le_refl _) (ndo_ok ho)
  have h' := h _ hn _ (fun b hb => upd_ne hb) ⟨_, [], upd_same, beq_eq_false_iff_ne.mpr (Ne.symm (Nat.ne_of_lt I.big)), empty_dobj X.prog X.w, .nil⟩
  have hz : (evalEachOpt [some ke] X.env).zip ((evalEach [ve] X.env).map fun (v : Sem Value) => (do let x ← v; standAt pos; pure x : Sem Value)) = ([(eval ke X.env, (do let x ← eval ve X.env; standAt pos; pure x : Sem Value))] : List (Sem Value × Sem Value)).map fun p => (some p.1, p.2) := rfl
  rw [arm_eval_Dict, hz, dictDisplay_pairs _ (by simp) (by simp)]
  refine wpAny_bind (wpAny_standAt (wpAny_bind (wpAny_subDictH (knd := nestedKind X.prog X.w) (Q := fun d s' => wpAny (model X.prog X.w) X.A (pure (Value.ref d)) (EP X pins σ Q) X.xe s') (by show X.A.units + 8 < cLine; omega) (by simp) ?_)))
  refine evalPairs_cons ?_
  refine thn (hk.run pins _ σ _ _ I1 h') fun u s1 ⟨x, H1, J1, rx, q1⟩ => ?_
  refine wpAny_bind (thn (hv.run pins s1 σ H1 _ J1 q1) fun v s2 ⟨y, H2, J2, ry, ka, k, va, vl, ex, ey, hka, hva, ⟨ob, xs, e1, e2, D, hp⟩, q2⟩ => wpAny_bind (wpAny_standAt (wpAny_pure (evalPairs_nil ?_))))
  subst ex
  subst ey
  cases rx
  cases ry
  cases hp
  have hd := tab_dict J2.hok e1 D .nil
  refine ⟨[(nk k, ka, .ref va)], ⟨rfl, rfl, key_is J2.hok hka, trivial⟩, hd, fun h3 tk3 hm hs => wpAny_pure ?_⟩
  obtain ⟨o', ho', D'⟩ := tab_of hm
  have ne : ∀ b, b ≠ s.heap.objs.size → upd H2 s.heap.objs.size (ndo s.heap.objs.size o') b = H2 b := fun b hb => upd_ne hb
  refine ⟨.ref s.heap.objs.size, upd H2 s.heap.objs.size (ndo s.heap.objs.size o'), J2.write (x := s.heap.objs.size) (e := s.heap.objs.size) (by rw [e1]; exact True.intro) (.inl rfl) (fun b q hb z => (hs.2 b hb).trans z) ⟨_, ho'⟩ (ndo_ok ho'), rfl, q2 _ ne ⟨o', _, upd_same, e2, D', ?_⟩⟩
  exact .cons ⟨rfl, keyAt_ne e1 ne hka, va, rfl, valAt_ne e1 ne hva⟩ .nil
/-! ### for k in d -/
def Itn (P : Program) (w : World) (a : Addr) (o : Obj) (t : Tab) : It :=
  ⟨fun i H => TabO P w H a o t ∧ i < t.length, fun i H x H' => H' = H ∧ ∃ kv ka, t[i]? = some kv ∧ x = .ref ka ∧ KeyAt H ka kv.1, fun i H => TabO P w H a o t ∧ t.length ≤ i⟩
theorem tabO_ent {P : Program} {w : World} {H : Hp} {a : Addr} {o : Obj} {t : Tab} {es : Array DictEntry} {ep : Nat} (hod : o.data = .dict es ep) (h : TabO P w H a o t) : es.size = t.length ∧ ∀ (i : Nat) (kv : PKey × PVal), t[i]? = some kv → ∃ (en : DictEntry) (ka : Addr), es[i]? = some en ∧ en.key = .ref ka ∧ KeyAt H ka kv.1 := by
  obtain ⟨xs, h1, h2, D, hp⟩ := h
  obtain ⟨es', ep', hd, he⟩ := D.dat
  obtain ⟨rfl, rfl⟩ := dict_ep hod hd
  have l1 := size_of_entries he
  have l2 : t.length = xs.length := Paired.length hp
  refine ⟨by omega, fun i kv e => ?_⟩
  obtain ⟨x, hx, r⟩ := L2.paired_get hp e
  have q := entry_at he i
  rw [hx] at q
  exact ⟨_, x.2.1, q, rfl, r.2.1⟩
theorem turn_N {P : Program} {w : World} {K : PySem.W.Frag} {tg : Expr} {a : Addr} {o : Obj} {t : Tab} {es : Array DictEntry} {ep : Nat} (it : Addr) (hod : o.data = .dict es ep) : Turn P w K tg (Itn P w a o t) [it] it (fun i h => h.IsKeyIter it a i t.length ep) where
  mem := by simp
  obj := fun i h st b hb => by
    cases (List.mem_singleton.mp hb)
    obtain ⟨oi, e, c, dd⟩ := st
    refine ⟨oi, e, fun v z => ?_⟩
    rw [dd] at z
    cases z
  keep := fun i h h' st k => st.at fun oi e => k it List.mem_cons_self oi e
  item := by
    intro X hP hw hK hc i pins s σ H E I hf st hg
    subst hP hw hK
    obtain ⟨hT, hi⟩ := hg
    obtain ⟨f0, f1, f2, f3, f4, f5⟩ := hf it List.mem_cons_self
    obtain ⟨hsz, ent⟩ := tabO_ent hod hT
    obtain ⟨xs, h1, h2, D, hp⟩ := id hT
    obtain ⟨en, ka, hen, hkey, hq⟩ := ent i t[i] (List.getElem?_eq_getElem hi)
    refine next_key_item st (ndo_at I.hok h1) hod hsz hen fun h' st' sb => ?_
    have I1 : Inv X pins σ H { s with heap := h' } := I.turned (t' := s.toks) (fun b ob hb e => (sb.2 b hb).trans e) f0 f1 f3 f4 f5
    obtain ⟨oi, e, c, dd⟩ := id st'
    refine ⟨en.key, rfl, go_of (s := { s with heap := h' }) e c dd (by decide) ⟨.ref ka, H, I1, hkey, ⟨rfl, t[i], ka, List.getElem?_eq_getElem hi, rfl, hq⟩, st', fun b hb => (hf b hb).1⟩⟩
  done := by
    intro X hP hw hK hc i pins s σ H E I hf st hg
    subst hP hw hK
    obtain ⟨hT, hi⟩ := hg
    obtain ⟨f0, f1, f2, f3, f4, f5⟩ := hf it List.mem_cons_self
    obtain ⟨hsz, ent⟩ := tabO_ent hod hT
    obtain ⟨xs, h1, h2, D, hp⟩ := id hT
    exact next_key_end (I.ok.hd hc) st (ndo_at I.hok h1) hod hsz hi fun h' eb => ⟨rfl, I.turned (t' := s.toks) (fun b ob hb e => eb b ob hb e) f0 f1 f3 f4 f5⟩
  self := fun A i s Q E st h => by
    refine wpAny_pyIter_slot st.typeIs F.slot_dict_keyiterator_iter (wpAny_call_entry F.slot_dict_keyiterator_iter st.typeIs F.entry_dict_keyiterator_iter ?_ (F.args_dict_keyiterator_iter_1 _))
    show wpAny _ _ (ret (.ref it)) _ _ s
    exact wpAny_pure ⟨_, rfl, "dict_keyiterator", _, st.typeIs, F.slot_dict_keyiterator_next.lookup, h⟩
def iN (P : Program) (w : World) (td : TE) : TI := fun σ H R => td σ H fun x H1 => ∃ a o t, x = .ref a ∧ TabO P w H1 a o t ∧ R (Itn P w a o t) H1
theorem pi_N {tg e : Expr} {td : TE} (he : PE X e td) : PI X tg e (iN X.prog X.w td) := by
  refine ⟨fun pins s σ H R I h => ?_⟩
  refine thn (he.run pins s σ H _ I h) fun u s1 ⟨x, H1, I1, rx, a, o, t, ex, hT, q⟩ => ?_
  subst ex
  cases rx
  obtain ⟨xs, h1, h2, D, hp⟩ := id hT
  obtain ⟨es, ep, hd, he'⟩ := D.dat
  obtain ⟨hsz, _⟩ := tabO_ent hd hT
  refine iter_keys h2 (ndo_at I1.hok h1) D.ex hd (pi_one (tk := s1.toks) I1 _ (turn_N _ hd) ⟨_, Heap.get?_push_size _ rfl, rfl, ?_⟩ q)
  rw [hsz]
  rfl
end
/-- the loop over the keys -/
theorem for_N {P : Program} {w : World} {a : Addr} {o : Obj} {t : Tab} {g : TG} {tb : TS} {D : Ends} {σ : L2.St} {H : Hp} (Pv : Nat → L2.St → Hp → Prop) (h0 : Pv 0 σ H) (hl : ∀ i σ H, i ≤ t.length → Pv i σ H → TabO P w H a o t)
    (hs : ∀ i kv ka σ H, t[i]? = some kv → KeyAt H ka kv.1 → Pv i σ H → g (.ref ka) σ H fun σ2 H2 => tb { D with nx := Pv (i + 1), ct := Pv (i + 1), bk := D.nx } σ2 H2) (hd : ∀ σ H, Pv t.length σ H → D.nx σ H) :
    ∃ W : Nat → Nat → L2.St → Hp → Prop, (∃ m, W 0 m σ H) ∧ ∀ i m σ H, W i m σ H →
      ((Itn P w a o t).stop i H ∧ D.nx σ H) ∨ ((Itn P w a o t).go i H ∧ ∃ N : L2.St → Hp → Prop, (∀ σ' H', N σ' H' → ∃ m', m' < m ∧ W (i + 1) m' σ' H') ∧ ∀ x H', (Itn P w a o t).yld i H x H' → g x σ H' fun σ2 H2 => tb { D with nx := N, ct := N, bk := D.nx } σ2 H2) := by
  refine ⟨fun i m σ H => m + i = t.length ∧ Pv i σ H, ⟨t.length, by omega, h0⟩, ?_⟩
  rintro i m σ H ⟨hm, p⟩
  have q := hl i σ H (by omega) p
  cases m with
  | zero =>
    have e : i = t.length := by omega
    subst e
    exact .inl ⟨⟨q, Nat.le_refl _⟩, hd σ H p⟩
  | succ m =>
    refine .inr ⟨⟨q, by omega⟩, Pv (i + 1), fun σ' H' p' => ⟨m, by omega, by omega, p'⟩, ?_⟩
    rintro x H' ⟨rfl, kv, ka, e1, rfl, e3⟩
    exact hs i kv ka σ _ e1 e3 p
theorem lc_N {P : Program} {w : World} {a : Addr} {o : Obj} {t : Tab} {g : TG} {tt : TT} {te : TE} {vs : List Nat} {σ : L2.St} {H1 : Hp} {Dl : Addr} {Qd : Hp → Prop} (Pv : Nat → Hp → Prop) (h0 : Pv 0 (upd H1 Dl (.lst []))) (hl : ∀ i H, i ≤ t.length → Pv i H → TabO P w H a o t)
    (hs : ∀ i kv ka H, t[i]? = some kv → KeyAt H ka kv.1 → Pv i H → g (.ref ka) (wipe σ vs) H fun σ2 H2 => wipe σ2 vs = wipe σ vs ∧ tt σ2 H2 fun b H3 =>
      if b = true then te σ2 H3 fun y H4 => ∃ acc, H4 Dl = some (.lst acc) ∧ acc.length < sizeLine ∧ Pv (i + 1) (upd H4 Dl (.lst (acc ++ [y]))) else Pv (i + 1) H3) (hd : ∀ H, Pv t.length H → Qd H) :
    ∃ W : Nat → Nat → Hp → Prop, (∃ m, W 0 m (upd H1 Dl (.lst []))) ∧ ∀ i m H, W i m H →
      ((Itn P w a o t).stop i H ∧ Qd H) ∨ ((Itn P w a o t).go i H ∧ ∃ Nx : Hp → Prop, (∀ H', Nx H' → ∃ m', m' < m ∧ W (i + 1) m' H') ∧ ∀ x H', (Itn P w a o t).yld i H x H' → g x (wipe σ vs) H' fun σ2 H2 => wipe σ2 vs = wipe σ vs ∧ tt σ2 H2 fun b H3 =>
        if b = true then te σ2 H3 fun y H4 => ∃ acc, H4 Dl = some (.lst acc) ∧ acc.length < sizeLine ∧ Nx (upd H4 Dl (.lst (acc ++ [y]))) else Nx H3) := by
  refine ⟨fun i m H => m + i = t.length ∧ Pv i H, ⟨t.length, by omega, h0⟩, ?_⟩
  rintro i m H ⟨hm, p⟩
  have q := hl i H (by omega) p
  cases m with
  | zero =>
    have e : i = t.length := by omega
    subst e
    exact .inl ⟨⟨q, Nat.le_refl _⟩, hd H p⟩
  | succ m =>
    refine .inr ⟨⟨q, by omega⟩, Pv (i + 1), fun H' p' => ⟨m, by omega, by omega, p'⟩, ?_⟩
    rintro x H' ⟨rfl, kv, ka, e1, rfl, e3⟩
    exact hs i kv ka _ e1 e3 p
end G

namespace G
open PySem PySem.Spec PyProof.Rows L2 Evl
/-! ### plans in order: (charges, what's blown off, each hour's) -/
def encN (l : List Nat) : List PyData := l.map fun (n : Nat) => PyData.int (n : Int)
def encV (v : PVal) : PyData := .tuple [.int (v.1 : Int), .int (v.2.1 : Int), .tuple (encN v.2.2)]
theorem eqv_int (a b : Nat) : PyData.eqv (.int (a : Int)) (.int (b : Int)) = decide (a = b) := by
  by_cases h : a = b
  · subst h
    simp [PyData.eqv]
  · have h' : ¬ (a : Int) = (b : Int) := fun z => h (Int.ofNat.inj z)
    simp [PyData.eqv, h, h']
theorem alike_int (a b : Nat) : PySem.W.alike (.int (a : Int)) (.int (b : Int)) = true := by simp [PySem.W.alike]
theorem alike_encN : ∀ a b : List Nat, PySem.W.alikeAll (encN a) (encN b) = true
  | [], _ => by
    unfold encN
    rw [List.map_nil, PySem.W.alikeAll]
  | _ :: _, [] => by
    unfold encN
    rw [List.map_nil, List.map_cons, PySem.W.alikeAll]
  | x :: a, y :: b => by
    have := alike_encN a b
    unfold encN at this ⊢
    rw [List.map_cons, List.map_cons, PySem.W.alikeAll, alike_int, this]
    rfl
theorem alike_encV (a b : PVal) : PySem.W.alike (encV a) (encV b) = true := by
  simp [encV, PySem.W.alike, PySem.W.alikeAll, alike_encN]
def ltDat (xs ys : List PyData) : Bool := PyProof.Rows.lexLt itemOrd (PySem.W.keyToksAll xs) (PySem.W.keyToksAll ys)
theorem lt_cons (a b : Nat) (xs ys : List PyData) : ltDat (.int (a : Int) :: xs) (.int (b : Int) :: ys) = (decide (a < b) || (decide (a = b) && ltDat xs ys)) := by
  unfold ltDat
  by_cases h : a = b
  · rw [PySem.W.dataLt_all_yes (alike_int a b) (by rw [eqv_int]; exact decide_eq_true h)]
    simp [h]
  · rw [PySem.W.dataLt_all_no (alike_int a b) (by rw [eqv_int]; exact decide_eq_false h), PySem.W.dataLt_int]
    simp [h]
theorem lt_nil : ltDat [] [] = false := by
  unfold ltDat
  exact PyProof.Rows.lex_irrefl (O := itemOrd) _
theorem lt_encN : ∀ a b : List Nat, a.length = b.length → ltDat (encN a) (encN b) = Mu14.lexLess a b
  | [], [], _ => lt_nil
  | [], _ :: _, h => by simp at h
  | _ :: _, [], h => by simp at h
  | x :: a, y :: b, h => by
    have ih := lt_encN a b (by simpa using h)
    have e : ltDat (encN (x :: a)) (encN (y :: b)) = (decide (x < y) || (decide (x = y) && ltDat (encN a) (encN b))) := lt_cons x y _ _
    rw [e, ih, Mu14.lexLess]
    by_cases hxy : x = y <;> simp [hxy]
theorem lt_one {x y : PyData} (h : PySem.W.alike x y = true) : ltDat [x] [y] = PySem.W.dataLt x y := by
  unfold ltDat
  cases e : PyData.eqv x y with
  | false => exact PySem.W.dataLt_all_no h e
  | true =>
    rw [PySem.W.dataLt_all_yes h e]
    have k := (PySem.W.toks_eqv x y h).1 e
    unfold PySem.W.dataLt
    rw [k, PyProof.Rows.lex_irrefl (O := itemOrd), PyProof.Rows.lex_irrefl (O := itemOrd)]
theorem lt_encV (a b : PVal) (h : a.2.2.length = b.2.2.length) : PySem.W.dataLt (encV a) (encV b) = ltV a b := by
  unfold encV
  rw [PySem.W.dataLt_tuple]
  show ltDat [.int (a.1 : Int), .int (a.2.1 : Int), .tuple (encN a.2.2)] [.int (b.1 : Int), .int (b.2.1 : Int), .tuple (encN b.2.2)] = _
  rw [lt_cons, lt_cons, lt_one (by rw [PySem.W.alike]; exact alike_encN _ _), PySem.W.dataLt_tuple]
  show (_ || (_ && (_ || (_ && ltDat (encN a.2.2) (encN b.2.2))))) = _
  rw [lt_encN _ _ h]
  rfl
theorem depth_encN : ∀ l : List Nat, PyData.depthAll (encN l) = 0
  | [] => by simp [encN, PyData.depthAll]
  | n :: l => by
    have := depth_encN l
    unfold encN at this ⊢
    rw [List.map_cons, PyData.depthAll, this]
    simp [PyData.depth]
theorem depth_encV (v : PVal) : (encV v).depth ≤ 4 := by
  unfold encV
  simp only [PyData.depth, PyData.depthAll, depth_encN]
  decide
theorem reads_encN {h : Heap} : ∀ {l : List Nat} {us : List Value}, Vals (nvs l) us → ReadsAll h us (encN l) []
  | [], _, r => by
    cases r
    exact .nil
  | n :: l, _, r => by
    cases r with
    | cons rv rt =>
      obtain ⟨tk, rfl⟩ := rv
      exact .cons (.int _ _) (reads_encN rt)
theorem reads_encV {P : Program} {w : World} {H : Hp} {h : Heap} {a : Addr} {v : PVal} (x : HOk P w H h) (hv : ValAt H a v) : Reads h (.ref a) (encV v) [] := by
  obtain ⟨l, h1, h2⟩ := hv
  obtain ⟨_, its, r, o, ho, hc, n, hd⟩ := x a _ h1
  obtain ⟨_, its2, r2, o2, ho2, hc2, n2, hd2⟩ := x l _ h2
  cases r with
  | cons r1 rr =>
    cases rr with
    | cons r2' rr =>
      cases rr with
      | cons r3 rn =>
        cases rn
        obtain ⟨t1, rfl⟩ := r1
        obtain ⟨t2, rfl⟩ := r2'
        cases r3
        exact .tuple ho hc hd (.cons (.int _ _) (.cons (.int _ _) (.cons (.tuple ho2 hc2 hd2 (by simpa using reads_encN r2)) .nil)))
section
variable {X : Cx}
def rLtV : R2 := fun x y H Q => ∃ a b va vb, x = .ref a ∧ y = .ref b ∧ ValAt H a va ∧ ValAt H b vb ∧ va.2.2.length = vb.2.2.length ∧ Q (.bl (ltV va vb)) H
theorem op_ltV (hu : X.A.units + 64 < cLine) : OpR X (compareOp .Lt) rLtV := by
  intro pins s σ H x y v u Q I rx ry h
  obtain ⟨a, b, va, vb, rfl, rfl, ha, hb, hl, q⟩ := h
  cases rx
  cases ry
  have e := PySem.W.rcLt_alike (encV va) (encV vb) X.A s _ _ _ _ (reads_encV I.hok ha) (reads_encV I.hok hb) (alike_encV va vb) (by unfold encV; simp) (by have := depth_encV va; omega)
  rw [lt_encV _ _ hl] at e
  exact e X.prog X.w X.xe _ ⟨.bl _, H, I, rfl, q⟩
abbrev ValsAt (H : Hp) : List V → List PVal → Prop := Paired fun x v => ∃ va, x = .ref va ∧ ValAt H va v
def rSortedV (K : PySem.W.Frag) : List V → Hp → VK → Prop := fun vs H Q => ∃ (a : Addr) (xs : List V) (ps : List PVal) (n : Nat), vs = [V.ref a] ∧ SqL K H a xs ∧ ValsAt H xs ps ∧ ps.length ≤ 100000 ∧ (∀ p ∈ ps, p.2.2.length = n) ∧
  ∀ (p : Addr) (ys : List V) (qs : List PVal), H p = none → qs.Perm ps → qs.Pairwise (fun a b => ltV b a = false) → ValsAt H ys qs → Q (.ref p) (upd H p (.lst ys))
theorem each_of {H : Hp} : ∀ {xs : List V} {us : List Value} {ps : List PVal}, Vals xs us → ValsAt H xs ps → PySem.W.EachIs (fun u p => ∃ va, u = Value.ref va ∧ ValAt H va p) us ps
  | _, _, _, .nil, .nil => .nil
  | _, _, _, .cons r rt, .cons ⟨va, e, hv⟩ t => by
    subst e
    cases r
    exact .cons ⟨va, rfl, hv⟩ (each_of rt t)
theorem of_each {H : Hp} : ∀ {us : List Value} {ps : List PVal}, PySem.W.EachIs (fun u p => ∃ va, u = Value.ref va ∧ ValAt H va p) us ps → ∃ xs, Vals xs us ∧ ValsAt H xs ps
  | _, _, .nil => ⟨[], .nil, .nil⟩
  | _, _, .cons ⟨va, e, hv⟩ t => by
    subst e
    obtain ⟨xs, h1, h2⟩ := of_each t
    exact ⟨.ref va :: xs, .cons rfl h1, .cons ⟨va, rfl, hv⟩ h2⟩
theorem cr_sortedV (hu : X.A.units + 64 < cLine) : CallR X (.builtin "sorted") (rSortedV X.K) := by
  intro pins s σ H vs us Q I r h
  obtain ⟨a, xs, ps, n, rfl, hs, hv, hz, hn, q⟩ := h
  obtain ⟨its, rv, hl, _⟩ := I.list hs
  rw [Vals.ref1 r]
  have each := each_of rv hv
  refine PySem.W.sorted_data (enc := encV) (R := fun u p => ∃ va, u = Value.ref va ∧ ValAt H va p) hl.isList each (each.mono fun u p ⟨va, e, hp⟩ => ⟨[], by rw [e]; exact reads_encV I.hok hp⟩) (PySem.W.AllAlike.of fun b b' => alike_encV b b') (PySem.W.Sortable.tuples fun b => ⟨_, _, rfl⟩) (by rw [sizeLine_eq]; omega)
    (fun b _ => by have := depth_encV b; omega) fun out hlen ho => ?_
  obtain ⟨ys, h1, h2⟩ := of_each ho
  obtain ⟨ep, he'⟩ := PyProof.Rows.sortedAll_at s.heap its out.toArray
  have hyl : ys.length ≤ sizeLine := by
    rw [h1.length, hlen, sizeLine_eq]
    omega
  have hperm : (ps.mergeSort (PySem.W.dataLe false encV)).Perm ps := List.mergeSort_perm _ _
  have hpw : (ps.mergeSort (PySem.W.dataLe false encV)).Pairwise (fun a b => PySem.W.dataLe false encV a b = true) := by
    have tl : PySem.W.TotalLe (PySem.W.dataLe false encV) := PySem.W.sortLe_total _ _ _
    exact PySem.W.sort_pairwise tl ps
  refine ⟨.ref _, upd H (s.heap.objs.size + 1) (.lst ys), I.laid (t' := s.toks) (fun _ _ => PyProof.Rows.sortedAll_old) (Nat.le_succ _) ⟨hyl, out, ep, h1, he'⟩, rfl, q _ ys _ (I.hok.fresh (Nat.le_succ _)) hperm ?_ h2⟩
  refine hpw.imp_of_mem fun {x y} hx hy hxy => ?_
  have ex := hn x (hperm.mem_iff.mp hx)
  have ey := hn y (hperm.mem_iff.mp hy)
  rw [PySem.W.dataLe_eq] at hxy
  have e := lt_encV y x (by rw [ex, ey])
  rw [← e]
  simpa using hxy
end
end G

namespace G
open PySem PySem.Spec PyProof.Rows L2 Evl
section
variable {P : Program} {w : World} {K : PySem.W.Frag} {mg : Str → Option Value} {base : Heap} {d : Ads}
/-! ### Use -/
theorem sc_Use_init : FnScope ["self", "name", "many", "begin", "end"] ["self", "name", "many", "begin", "end"] (defScope s_Use_init) := ⟨rfl, rfl, rfl, by decide +kernel, rfl, by decide +kernel, by decide +kernel⟩
def mkUse : List V → List (Str × V)
  | [a, b, c, e] => F_Use a b c e
  | _ => []
theorem ok_Use_init (T : Txt K mg d) : Ok P w K mg base CX0 1 d.m_Use_init ["self", "name", "many", "begin", "end"] (spInit d.cUse mkUse 4) := by
  obtain ⟨fd, F, b⟩ := T.fn_m_Use_init
  refine ⟨fd, F.ok sc_Use_init (fun vs H Q E h => ?_) (fun cdv A outer s H vs Q E hr h => ?_), b⟩
  · obtain ⟨p, dx, ws, rfl, hl, _⟩ := h
    simp [hl]
  · obtain ⟨p, dx, ws, rfl, hl, hp, k⟩ := h
    match ws, hl with
    | [v0, v1, v2, v3], _ =>
    refine ⟨_, pss_cons (ps_fld (pv 0) (pv 1) rfl) (pss_cons (ps_fld (pv 0) (pv 2) rfl) (pss_cons (ps_fld (pv 0) (pv 3) rfl) (pss_one (ps_fld (pv 0) (pv 4) rfl)))), ?_⟩
    refine ⟨_, rfl, _, rfl, p, d.cUse, dx, [], rfl, hp, T.cl_Use, T.na_Use_name, (by show 0 < 1000; decide), ?_⟩
    refine ⟨_, rfl, _, rfl, p, d.cUse, dx, _, rfl, upd_same, T.cl_Use, T.na_Use_many, (by show 1 < 1000; decide), ?_⟩
    refine ⟨_, rfl, _, rfl, p, d.cUse, dx, _, rfl, upd_same, T.cl_Use, T.na_Use_begin, (by show 2 < 1000; decide), ?_⟩
    refine ⟨_, rfl, _, rfl, p, d.cUse, dx, _, rfl, upd_same, T.cl_Use, T.na_Use_end, (by show 3 < 1000; decide), ?_⟩
    rw [upd_upd, upd_upd, upd_upd, new_Use]
    exact k
theorem sc_Use_does_burn : FnScope ["self", "hour"] ["self", "hour"] (defScope s_Use_does_burn) := ⟨rfl, rfl, rfl, by decide +kernel, rfl, by decide +kernel, by decide +kernel⟩
def spBurn (d : Ads) : Sp := fun vs H Q _ => ∃ (v : V) (u : Mu14.Use) (h : Nat), vs = [v, nv h] ∧ UseAt d H v u ∧ RetV (.bl (Mu14.burns u h)) H Q
theorem ok_Use_does_burn (T : Txt K mg d) : Ok P w K mg base CX0 1 d.m_Use_does_burn ["self", "hour"] (spBurn d) := by
  obtain ⟨fd, F, b⟩ := T.fn_m_Use_does_burn
  refine ⟨fd, F.ok sc_Use_does_burn (fun vs H Q E h => ?_) (fun cdv A outer s H vs Q E hr h => ?_), b⟩
  · obtain ⟨v, u, h, rfl, _⟩ := h
    rfl
  · obtain ⟨v, u, h, rfl, ⟨a, dx, nm, rfl, hu, _⟩, k⟩ := h
    refine ⟨_, pss_cons (ps_if (pt_cmpR op_lt (pe_fld (pv 0) rfl) (pe_fld (pv 0) rfl) (nomark _)) (pss_one (ps_ret (pe_and (pe_cmpR op_le (pe_fld (pv 0) rfl) (pv 1) (nomark _)) (pe_one (pe_cmpR op_lt (pv 1) (pe_fld (pv 0) rfl) (nomark _)))))) pss_nil)
      (pss_cons (ps_if (pt_cmpR op_lt (pe_fld (pv 0) rfl) (pe_fld (pv 0) rfl) (nomark _)) (pss_one (ps_ret (pe_or (pe_cmpR op_le (pe_fld (pv 0) rfl) (pv 1) (nomark _)) (pe_one (pe_cmpR op_lt (pv 1) (pe_fld (pv 0) rfl) (nomark _)))))) pss_nil)
      (pss_one (ps_ret pe_bl))), ?_⟩
    have fb : ∀ H1, Ex H H1 → Ev (tFld K (tVar 0) "begin") [some (V.ref a), some (nv h)] H1 (nv u.lo) := fun H1 e => ev_fld (ev_var rfl) (e _ _ hu) T.cl_Use T.na_Use_begin (lk_Use_begin _ _ _ _)
    have fe : ∀ H1, Ex H H1 → Ev (tFld K (tVar 0) "end") [some (V.ref a), some (nv h)] H1 (nv u.hi) := fun H1 e => ev_fld (ev_var rfl) (e _ _ hu) T.cl_Use T.na_Use_end (lk_Use_end _ _ _ _)
    have e0 := Ex.refl H
    refine q_when (et_test (ev_op (fb H e0) (fe H e0) rv_I0)) (fun c H1 e1 => ?_) (fun c H1 e1 => ?_)
    · refine s_ret (ev_andV (ev_op (fb H1 e1) (ev_var rfl) rv_I0) fun _ => ev_op (ev_var rfl) (fe H1 e1) rv_I0) fun H2 e2 => ?_
      have e : (decide ((u.lo : Int) ≤ (h : Int)) && decide ((h : Int) < (u.hi : Int))) = Mu14.burns u h := by
        have c' : (u.lo : Int) < (u.hi : Int) := of_decide_eq_true c
        unfold Mu14.burns
        rw [if_neg (by omega), if_pos (by omega)]
        congr 1 <;> (apply decide_eq_decide.mpr; omega)
      rw [← e] at k
      exact k H2 (e1.trans e2)
    · refine q_when (et_test (ev_op (fe H1 e1) (fb H1 e1) rv_I0)) (fun c2 H2 e2 => ?_) (fun c2 H2 e2 => ?_)
      · refine s_ret (ev_orV (ev_op (fb H2 (e1.trans e2)) (ev_var rfl) rv_I0) fun _ => ev_op (ev_var rfl) (fe H2 (e1.trans e2)) rv_I0) fun H3 e3 => ?_
        have e : (decide ((u.lo : Int) ≤ (h : Int)) || decide ((h : Int) < (u.hi : Int))) = Mu14.burns u h := by
          have c' : (u.hi : Int) < (u.lo : Int) := of_decide_eq_true c2
          unfold Mu14.burns
          rw [if_neg (by omega), if_neg (by omega)]
          congr 1 <;> (apply decide_eq_decide.mpr; omega)
        rw [← e] at k
        exact k H3 ((e1.trans e2).trans e3)
      · refine s_ret ev_c fun H3 e3 => ?_
        have e : Mu14.burns u h = true := by
          have c1' : ¬ (u.lo : Int) < (u.hi : Int) := of_decide_eq_false c
          have c2' : ¬ (u.hi : Int) < (u.lo : Int) := of_decide_eq_false c2
          unfold Mu14.burns
          rw [if_pos (by omega)]
        rw [e] at k
        exact k H3 ((e1.trans e2).trans e3)
/-! ### Works, Moment, Told: __init__ -/
theorem sc_Works_init : FnScope ["self", "holds", "first", "retorts", "leak", "charge", "uses"] ["self", "holds", "first", "retorts", "leak", "charge", "uses"] (defScope s_Works_init) := ⟨rfl, rfl, rfl, by decide +kernel, rfl, by decide +kernel, by decide +kernel⟩
def mkWorks : List V → List (Str × V)
  | [v0, v1, v2, v3, v4, v5] => F_Works v0 v1 v2 v3 v4 v5
  | _ => []
theorem ok_Works_init (T : Txt K mg d) : Ok P w K mg base CX0 1 d.m_Works_init ["self", "holds", "first", "retorts", "leak", "charge", "uses"] (spInit d.cWorks mkWorks 6) := by
  obtain ⟨fd, F, b⟩ := T.fn_m_Works_init
  refine ⟨fd, F.ok sc_Works_init (fun vs H Q E h => ?_) (fun cdv A outer s H vs Q E hr h => ?_), b⟩
  · obtain ⟨p, dx, ws, rfl, hl, _⟩ := h
    simp [hl]
  · obtain ⟨p, dx, ws, rfl, hl, hp, k⟩ := h
    match ws, hl with
    | [v0, v1, v2, v3, v4, v5], _ =>
    refine ⟨_, pss_cons (ps_fld (pv 0) (pv 1) rfl) (pss_cons (ps_fld (pv 0) (pv 2) rfl) (pss_cons (ps_fld (pv 0) (pv 3) rfl) (pss_cons (ps_fld (pv 0) (pv 4) rfl) (pss_cons (ps_fld (pv 0) (pv 5) rfl) (pss_one (ps_fld (pv 0) (pv 6) rfl)))))), ?_⟩
    refine ⟨_, rfl, _, rfl, p, d.cWorks, dx, [], rfl, hp, T.cl_Works, T.na_Works_holds, (by show 0 < 1000; decide), ?_⟩
    refine ⟨_, rfl, _, rfl, p, d.cWorks, dx, _, rfl, upd_same, T.cl_Works, T.na_Works_first, (by show 1 < 1000; decide), ?_⟩
    refine ⟨_, rfl, _, rfl, p, d.cWorks, dx, _, rfl, upd_same, T.cl_Works, T.na_Works_retorts, (by show 2 < 1000; decide), ?_⟩
    refine ⟨_, rfl, _, rfl, p, d.cWorks, dx, _, rfl, upd_same, T.cl_Works, T.na_Works_leak, (by show 3 < 1000; decide), ?_⟩
    refine ⟨_, rfl, _, rfl, p, d.cWorks, dx, _, rfl, upd_same, T.cl_Works, T.na_Works_charge, (by show 4 < 1000; decide), ?_⟩
    refine ⟨_, rfl, _, rfl, p, d.cWorks, dx, _, rfl, upd_same, T.cl_Works, T.na_Works_uses, (by show 5 < 1000; decide), ?_⟩
    rw [upd_upd, upd_upd, upd_upd, upd_upd, upd_upd, new_Works]
    exact k
theorem sc_Moment_init : FnScope ["self", "hours", "held", "left"] ["self", "hours", "held", "left"] (defScope s_Moment_init) := ⟨rfl, rfl, rfl, by decide +kernel, rfl, by decide +kernel, by decide +kernel⟩
def mkMoment : List V → List (Str × V)
  | [v0, v1, v2] => F_Moment v0 v1 v2
  | _ => []
theorem ok_Moment_init (T : Txt K mg d) : Ok P w K mg base CX0 1 d.m_Moment_init ["self", "hours", "held", "left"] (spInit d.cMoment mkMoment 3) := by
  obtain ⟨fd, F, b⟩ := T.fn_m_Moment_init
  refine ⟨fd, F.ok sc_Moment_init (fun vs H Q E h => ?_) (fun cdv A outer s H vs Q E hr h => ?_), b⟩
  · obtain ⟨p, dx, ws, rfl, hl, _⟩ := h
    simp [hl]
  · obtain ⟨p, dx, ws, rfl, hl, hp, k⟩ := h
    match ws, hl with
    | [v0, v1, v2], _ =>
    refine ⟨_, pss_cons (ps_fld (pv 0) (pv 1) rfl) (pss_cons (ps_fld (pv 0) (pv 2) rfl) (pss_one (ps_fld (pv 0) (pv 3) rfl))), ?_⟩
    refine ⟨_, rfl, _, rfl, p, d.cMoment, dx, [], rfl, hp, T.cl_Moment, T.na_Moment_hours, (by show 0 < 1000; decide), ?_⟩
    refine ⟨_, rfl, _, rfl, p, d.cMoment, dx, _, rfl, upd_same, T.cl_Moment, T.na_Moment_held, (by show 1 < 1000; decide), ?_⟩
    refine ⟨_, rfl, _, rfl, p, d.cMoment, dx, _, rfl, upd_same, T.cl_Moment, T.na_Moment_left, (by show 2 < 1000; decide), ?_⟩
    rw [upd_upd, upd_upd, new_Moment]
    exact k
theorem sc_Told_init : FnScope ["self", "moment", "given", "burnt", "leaked", "blown", "short"] ["self", "moment", "given", "burnt", "leaked", "blown", "short"] (defScope s_Told_init) := ⟨rfl, rfl, rfl, by decide +kernel, rfl, by decide +kernel, by decide +kernel⟩
def mkTold : List V → List (Str × V)
  | [v0, v1, v2, v3, v4, v5] => F_Told v0 v1 v2 v3 v4 v5
  | _ => []
theorem ok_Told_init (T : Txt K mg d) : Ok P w K mg base CX0 1 d.m_Told_init ["self", "moment", "given", "burnt", "leaked", "blown", "short"] (spInit d.cTold mkTold 6) := by
  obtain ⟨fd, F, b⟩ := T.fn_m_Told_init
  refine ⟨fd, F.ok sc_Told_init (fun vs H Q E h => ?_) (fun cdv A outer s H vs Q E hr h => ?_), b⟩
  · obtain ⟨p, dx, ws, rfl, hl, _⟩ := h
    simp [hl]
  · obtain ⟨p, dx, ws, rfl, hl, hp, k⟩ := h
    match ws, hl with
    | [v0, v1, v2, v3, v4, v5], _ =>
    refine ⟨_, pss_cons (ps_fld (pv 0) (pv 1) rfl) (pss_cons (ps_fld (pv 0) (pv 2) rfl) (pss_cons (ps_fld (pv 0) (pv 3) rfl) (pss_cons (ps_fld (pv 0) (pv 4) rfl) (pss_cons (ps_fld (pv 0) (pv 5) rfl) (pss_one (ps_fld (pv 0) (pv 6) rfl)))))), ?_⟩
    refine ⟨_, rfl, _, rfl, p, d.cTold, dx, [], rfl, hp, T.cl_Told, T.na_Told_moment, (by show 0 < 1000; decide), ?_⟩
    refine ⟨_, rfl, _, rfl, p, d.cTold, dx, _, rfl, upd_same, T.cl_Told, T.na_Told_given, (by show 1 < 1000; decide), ?_⟩
    refine ⟨_, rfl, _, rfl, p, d.cTold, dx, _, rfl, upd_same, T.cl_Told, T.na_Told_burnt, (by show 2 < 1000; decide), ?_⟩
    refine ⟨_, rfl, _, rfl, p, d.cTold, dx, _, rfl, upd_same, T.cl_Told, T.na_Told_leaked, (by show 3 < 1000; decide), ?_⟩
    refine ⟨_, rfl, _, rfl, p, d.cTold, dx, _, rfl, upd_same, T.cl_Told, T.na_Told_blown, (by show 4 < 1000; decide), ?_⟩
    refine ⟨_, rfl, _, rfl, p, d.cTold, dx, _, rfl, upd_same, T.cl_Told, T.na_Told_short, (by show 5 < 1000; decide), ?_⟩
    rw [upd_upd, upd_upd, upd_upd, upd_upd, upd_upd, new_Told]
    exact k
/-! ### Works -/
theorem sc_Works_wanted : FnScope ["self", "hour", "use"] ["self", "hour"] (defScope s_Works_wanted) := ⟨rfl, rfl, rfl, by decide +kernel, rfl, by decide +kernel, by decide +kernel⟩
/-- wanted(hour): hour of the day -/
def spWanted (d : Ads) : Sp := fun vs H Q _ => ∃ (a : Addr) (W : Mu14.Works) (h : Nat), vs = [.ref a, nv h] ∧ WorksAt d H a W ∧ W.uses.length ≤ 8 ∧ h < 24 ∧ RetV (nv (Mu14.wanted W h)) H Q
theorem SpBurn.v {d : Ads} {H : Hp} {v : V} {u : Mu14.Use} {h : Nat} (hu : UseAt d H v u) : SpV (spBurn d) [v, nv h] H (.bl (Mu14.burns u h)) := fun H1 e Q q E => ⟨v, u, h, rfl, hu.mono e, q⟩
theorem paired_zip {α β : Type} {F : α → β → Prop} : ∀ {l1 : List α} {l2 : List β}, Paired F l1 l2 → l1 = (l1.zip l2).map (·.1) ∧ l2 = (l1.zip l2).map (·.2) ∧ ∀ p ∈ l1.zip l2, F p.1 p.2
  | _, _, .nil => ⟨rfl, rfl, fun p h => by cases h⟩
  | _, _, .cons r t => by
    obtain ⟨h1, h2, h3⟩ := paired_zip t
    refine ⟨?_, ?_, fun p hp => ?_⟩
    · rw [List.zip_cons_cons, List.map_cons, ← h1]
    · rw [List.zip_cons_cons, List.map_cons, ← h2]
    · rw [List.zip_cons_cons] at hp
      rcases List.mem_cons.mp hp with e | e
      · subst e
        exact r
      · exact h3 p e
theorem ok_Works_wanted (T : Txt K mg d) : Ok P w K mg base CX0 3 d.m_Works_wanted ["self", "hour"] (spWanted d) := by
  obtain ⟨fd, F, b⟩ := T.fn_m_Works_wanted
  obtain ⟨fdB, GB, bB⟩ := ok_Use_does_burn (P := P) (w := w) (base := base) T
  refine ⟨fd, F.ok sc_Works_wanted (fun vs H Q E h => ?_) (fun cdv A outer s H vs Q E hr h => ?_), b⟩
  · obtain ⟨a, W, h, rfl, _⟩ := h
    rfl
  · obtain ⟨a, W, h, rfl, hW, hl, hh, k⟩ := h
    have hr1 : Room 1 _ := hr.mono (by decide)
    refine ⟨_, pss_one (ps_ret (pe_callB (cr_sum rfl) (by rfl) T.b_sum boot_sum (pa_cons (pe_lc (own := [("use", 2)]) (g := gName 2) (te := tFld K (tVar 2) "many") rfl sc_Works_wanted.nd (pi_list (pe_fld (pv 0) rfl)) (blkOk_by (own := [("use", 2)]) (N := ["self", "hour", "use"]) (sc := defScope s_Works_wanted) (by decide +kernel))
      (fun _ _ _ _ _ => pg_name (i := 2) sc_Works_wanted.nd rfl (Or.inl rfl)) (fun _ _ _ _ _ => pts_one (pt_val (pe_meth (pv 2) T.cl_Use T.me_Use_does_burn GB hr1 bB .nil pass0 (by exact (pa_cons (pv 1) pa_nil))))) (fun _ _ _ _ _ => by exact (pe_fld (pv 2) rfl))) pa_nil))), ?_⟩
    obtain ⟨dx, c, u, uvs, h1, h2, h3, h4⟩ := hW
    obtain ⟨z1, z2, z3⟩ := paired_zip h4
    have ul : (uvs.zip W.uses).length ≤ 40000 := by
      rw [List.length_zip]
      omega
    refine s_ret (ev_sum (ns := (W.uses.filter fun u => Mu14.burns u h).map fun u => u.rate) (el_cast (el_cL (uvs.zip W.uses) (·.1) (fun p => Mu14.burns p.2 h) (fun p => nv p.2.rate) (ev_fld (ev_var rfl) h1 T.cl_Works T.na_Works_uses (lk_Works_uses _ _ _ _ _ _)) (SqL.of h3) z1 ul (fun x => rfl) (fun p hp H1 e => ?_) (fun p hp hf H1 e => ?_)) ?_)) fun H1 e => ?_
    · have hu := (z3 p hp).mono e
      obtain ⟨ua, udx, nm, e1, e2, e3⟩ := id hu
      rw [e1] at hu ⊢
      exact et_B (ev_meth (ev_var rfl) e2 (lk_Use_no_does_burn _ _ _ _) (ea_cons (ev_var rfl) ea_nil) (SpBurn.v hu))
    · obtain ⟨ua, udx, nm, e1, e2, e3⟩ := (z3 p hp).mono e
      rw [e1]
      exact ev_fld (ev_var rfl) e2 T.cl_Use T.na_Use_many (lk_Use_many _ _ _ _)
    · have e1 : W.uses.filter (fun u => Mu14.burns u h) = (((uvs.zip W.uses).filter fun p => Mu14.burns p.2 h).map (·.2)) := by
        conv => lhs; rw [z2]
        rw [List.filter_map]
        rfl
      rw [e1]
      unfold nvs
      rw [List.map_map, List.map_map]
      rfl
    · have e2 : Mu14.wanted W h = Mu14.total ((W.uses.filter fun u => Mu14.burns u h).map fun u => u.rate) := by
        unfold Mu14.wanted
        rw [Nat.mod_eq_of_lt hh]
      rw [e2] at k
      exact k H1 e
theorem sc_Works_given_by : FnScope ["self", "left"] ["self", "left"] (defScope s_Works_given_by) := ⟨rfl, rfl, rfl, by decide +kernel, rfl, by decide +kernel, by decide +kernel⟩
def spGiven (d : Ads) : Sp := fun vs H Q _ => ∃ (a : Addr) (W : Mu14.Works) (n : Nat), vs = [.ref a, nv n] ∧ WorksAt d H a W ∧ n ≤ W.charge.length ∧ RetV (nv (Mu14.gives W n)) H Q
theorem ok_Works_given_by (T : Txt K mg d) : Ok P w K mg base CX0 1 d.m_Works_given_by ["self", "left"] (spGiven d) := by
  obtain ⟨fd, F, b⟩ := T.fn_m_Works_given_by
  refine ⟨fd, F.ok sc_Works_given_by (fun vs H Q E h => ?_) (fun cdv A outer s H vs Q E hr h => ?_), b⟩
  · obtain ⟨a, W, h, rfl, _⟩ := h
    rfl
  · obtain ⟨a, W, n, rfl, hW, hl, k⟩ := h
    refine ⟨_, pss_cons (ps_if (pt_cmpR op_eq (pv 1) pe_int (nomark _)) (pss_one (ps_ret pe_int)) pss_nil)
      (pss_one (ps_ret (pe_ix ix_tup (pe_fld (pv 0) rfl) (pe_op op_sub (pe_callB call_len_seq (by rfl) T.b_len PySem.boot_len (pa_cons (pe_fld (pv 0) rfl) pa_nil)) (pv 1)) (fun _ _ => rfl)))), ?_⟩
    obtain ⟨dx, c, u, uvs, h1, h2, h3, h4⟩ := hW
    have fc : ∀ H1, Ex H H1 → Ev (tFld K (tVar 0) "charge") [some (V.ref a), some (nv n)] H1 (.ref c) := fun H1 e => ev_fld (ev_var rfl) (e _ _ h1) T.cl_Works T.na_Works_charge (lk_Works_charge _ _ _ _ _ _)
    refine q_when (et_test (ev_eqN (j := 0) (ev_var rfl) ev_c)) (fun c1 H1 e1 => ?_) (fun c1 H1 e1 => ?_)
    · have c' := of_decide_eq_true c1
      subst c'
      exact s_ret ev_c fun H2 e2 => k H2 (e1.trans e2)
    · have c' : n ≠ 0 := of_decide_eq_false c1
      have hget : W.charge[W.charge.length - n]? = some (Mu14.gives W n) := by
        unfold Mu14.gives
        rw [if_neg c', List.getD_eq_getElem?_getD, List.getElem?_eq_getElem (by omega)]
        rfl
      refine s_ret (ev_op (fc H1 e1) (ev_op (ev_lenS (fc H1 e1) (.inr (SqT.of (e1 _ _ h2)))) (ev_var rfl) rv_I0) (rv_ixT (SqT.of (e1 _ _ h2)) (atN ?_ hget))) fun H2 e2 => k H2 (e1.trans e2)
      rw [nvs_len]
      omega
/-! ### Moment -/
theorem sc_Moment_empty : FnScope ["self", "one"] ["self"] (defScope s_Moment_empty) := ⟨rfl, rfl, rfl, by decide +kernel, rfl, by decide +kernel, by decide +kernel⟩
def spEmpty (d : Ads) : Sp := fun vs H Q _ => ∃ (a : Addr) (p q : Nat) (l : List Nat), vs = [.ref a] ∧ MomentAt d H a p q l ∧ l.length ≤ 1000 ∧ RetV (nv (Mu14.idle l)) H Q
theorem ok_Moment_empty (T : Txt K mg d) : Ok P w K mg base CX0 1 d.m_Moment_empty ["self"] (spEmpty d) := by
  obtain ⟨fd, F, b⟩ := T.fn_m_Moment_empty
  refine ⟨fd, F.ok sc_Moment_empty (fun vs H Q E h => ?_) (fun cdv A outer s H vs Q E hr h => ?_), b⟩
  · obtain ⟨a, p, q, l, rfl, _⟩ := h
    rfl
  · obtain ⟨a, p, q, l, rfl, ⟨dx, c, h1, h2⟩, hl, k⟩ := h
    refine ⟨_, pss_one (ps_ret (pe_callB call_len_seq (by rfl) T.b_len PySem.boot_len (pa_cons (pe_lc (own := [("one", 1)]) (g := gName 1) rfl sc_Moment_empty.nd (pi_tup (pe_fld (pv 0) rfl)) (blkOk_by (own := [("one", 1)]) (N := ["self", "one"]) (sc := defScope s_Moment_empty) (by decide +kernel))
      (fun _ _ _ _ _ => pg_name (i := 1) sc_Moment_empty.nd rfl (Or.inl rfl)) (fun _ _ _ _ _ => pts_one (pt_cmpR op_eq (pv 1) pe_int (nomark _))) (fun _ _ _ _ _ => pv 1)) pa_nil))), ?_⟩
    refine s_ret (ev_lenN (el_cT l nv (fun n => decide (n = 0)) nv (ev_fld (ev_var rfl) h1 T.cl_Moment T.na_Moment_left (lk_Moment_left _ _ _)) (SqT.of h2) rfl (by omega) (fun x => rfl) (fun n hn H1 e => et_test (ev_eqN (j := 0) (ev_var rfl) ev_c)) (fun n hn hf H1 e => ev_var rfl))) fun H1 e => ?_
    have e2 : (((l.filter fun n => decide (n = 0)).map nv).length : Int) = ((Mu14.idle l : Nat) : Int) := by
      rw [List.length_map]
      unfold Mu14.idle
      congr 2
    rw [e2]
    exact k H1 e
end
end G

namespace G
open PySem PySem.Spec PyProof.Rows L2 Evl
section
variable {K : PySem.W.Frag} {σ : L2.St} {H H' : Hp} {ta tb te : TE} {a : Addr} {tA : TA}
def TupR (xs : List V) : V → Hp → Prop := fun v H' => ∃ p, v = .ref p ∧ H' p = some (.tup xs)
/-- t + u, u not empty -/
theorem er_catA {xs ys : List V} (ha : Ev ta σ H (.ref a)) (hx : H a = some (.tup xs)) (hb : EvU tb σ H ys) (hy : ys ≠ []) (hz : xs.length + ys.length ≤ 100000) : EvR (tOp (rCatA K) ta tb) σ H (TupR (xs ++ ys)) := fun H1 e Q q =>
  ha H1 e _ fun H2 e2 => hb H2 (e.trans e2) _ fun p H3 _ e3 hp => by
    have hx3 : H3 a = some (.tup xs) := e3 _ _ (e2 _ _ (e _ _ hx))
    refine ⟨a, p, xs, ys, rfl, rfl, SqT.of hx3, SqT.of hp, sz_of hz, fun h0 => ?_, fun _ h => absurd h hy, fun _ _ p' hp' => ?_⟩
    · subst h0
      exact q _ H3 (e2.trans e3) ⟨p, rfl, hp⟩
    · exact q _ _ ((e2.trans e3).trans (Ex.new hp')) ⟨p', rfl, upd_same⟩
theorem flat_rep (k : Nat) (x : V) : (List.replicate k [x]).flatten = List.replicate k x := by
  induction k with
  | zero => rfl
  | succ k ih => rw [List.replicate_succ, List.flatten_cons, ih, List.replicate_succ]; rfl
/-- (x,) * k -/
theorem er_repA {x : V} {k : Nat} (ha : EvU ta σ H [x]) (hb : Ev tb σ H (nv k)) (h1 : 1 ≤ k) (h2 : k ≤ 100) : EvR (tOp (rRepA K) ta tb) σ H (TupR (List.replicate k x)) := fun H1 e Q q =>
  ha H1 e _ fun p H2 _ e2 hp => hb H2 (e.trans e2) _ fun H3 e3 => by
    refine ⟨p, (k : Int), [x], rfl, rfl, SqT.of (e3 _ _ hp), by simp, by omega, by omega, by simp, fun hk => ?_, fun hk p' hp' => ?_⟩
    · have : k = 1 := by omega
      subst this
      exact q _ H3 (e2.trans e3) ⟨p, rfl, e3 _ _ hp⟩
    · refine q _ _ ((e2.trans e3).trans (Ex.new hp')) ⟨p', rfl, ?_⟩
      rw [upd_same, Int.toNat_natCast]
      congr 2
      exact flat_rep k x
theorem nvs_rep (k : Nat) : nvs (List.replicate k 0) = List.replicate k (V.int 0) := by
  unfold nvs
  rw [List.map_replicate]
  rfl
end
section
variable {P : Program} {w : World} {K : PySem.W.Frag} {mg : Str → Option Value} {base : Heap} {d : Ads}
/-! ### beginning -/
theorem sc_beginning : FnScope ["works"] ["works"] (defScope s_beginning) := ⟨rfl, rfl, rfl, by decide +kernel, rfl, by decide +kernel, by decide +kernel⟩
def MomR (d : Ads) (p q : Nat) (l : List Nat) : V → Hp → Prop := fun v H' => ∃ m, v = .ref m ∧ MomentAt d H' m p q l
def spBeginning (d : Ads) : Sp := fun vs H Q _ => ∃ (a : Addr) (W : Mu14.Works), vs = [.ref a] ∧ WorksAt d H a W ∧ 1 ≤ W.retorts.getD 0 ∧ W.retorts.getD 0 ≤ 3 ∧ RetR (MomR d 0 (W.holder.getD (0, 0)).2 (List.replicate (W.retorts.getD 0) 0)) H Q
theorem ok_beginning (T : Txt K mg d) : Ok P w K mg base CX0 4 d.f_beginning ["works"] (spBeginning d) := by
  obtain ⟨fd, F, b⟩ := T.fn_beginning
  obtain ⟨fdI, GI, bI⟩ := ok_Moment_init (P := P) (w := w) (base := base) T
  refine ⟨fd, F.ok sc_beginning (fun vs H Q E h => ?_) (fun cdv A outer s H vs Q E hr h => ?_), b⟩
  · obtain ⟨a, W, rfl, _⟩ := h
    rfl
  · obtain ⟨a, W, rfl, ⟨dx, c, u, uvs, h1, h2, h3, h4⟩, r1, r2, k⟩ := h
    have hr1 : Room 2 _ := hr.mono (by decide)
    refine ⟨_, pss_one (ps_ret (pe_make T.mk_Moment GI hr1 rfl T.g_Moment bI .nil pass0 (by exact (pa_cons pe_int (pa_cons (pe_fld (pv 0) rfl) (pa_cons (pe_op op_repA (pe_tup (pa_cons pe_int pa_nil)) (pe_fld (pv 0) rfl)) pa_nil)))))), ?_⟩
    refine s_retR (er_make (RA := fun vs H' => ∃ l, vs = [nv 0, nv (W.holder.getD (0, 0)).2, .ref l] ∧ H' l = some (.tup (nvs (List.replicate (W.retorts.getD 0) 0)))) ?_ ?_) ?_
    · refine ear_val (v := nv 0) ev_c fun H1 e1 => ear_val (ev_fld (ev_var rfl) (e1 _ _ h1) T.cl_Works T.na_Works_first (lk_Works_first _ _ _ _ _ _)) fun H2 e2 => ?_
      have h1' := e2 _ _ (e1 _ _ h1)
      refine ear_cons (er_repA (eu_tup (ea_cons ev_c ea_nil) (by simp)) (ev_fld (ev_var rfl) h1' T.cl_Works T.na_Works_retorts (lk_Works_retorts _ _ _ _ _ _)) r1 (by omega)) fun v H3 e3 hv => ear_nil fun H4 e4 => ?_
      obtain ⟨p, rfl, hp⟩ := hv
      refine ⟨p, rfl, ?_⟩
      rw [nvs_rep]
      exact e4 _ _ hp
    · rintro vs H' ⟨l, rfl, _⟩
      rfl
    · rintro v H1 e1 ⟨x, dx', vs, H0, rfl, hx, ⟨l, rfl, hl⟩, e0⟩
      exact k _ H1 e1 ⟨x, rfl, dx', l, hx, e0 _ _ hl⟩
/-! ### charged -/
def cstep (L : Nat) (s : List Nat × Nat) (x : Nat) : List Nat × Nat := if x = 0 ∧ s.2 > 0 then (s.1 ++ [L], s.2 - 1) else (s.1 ++ [x], s.2)
theorem cstep_all (L : Nat) : ∀ (l acc : List Nat) (k : Nat), (l.foldl (cstep L) (acc, k)).1 = acc ++ Mu14.charged L k l
  | [], acc, k => by rw [charged_nil]; simp
  | x :: l, acc, k => by
    rw [List.foldl_cons]
    by_cases h : x = 0 ∧ k > 0
    · obtain ⟨h1, h2⟩ := h
      subst h1
      obtain ⟨j, rfl⟩ : ∃ j, k = j + 1 := ⟨k - 1, by omega⟩
      have e : cstep L (acc, j + 1) 0 = (acc ++ [L], j) := by simp [cstep]
      rw [e, cstep_all L l, charged_hit]
      simp
    · have e : cstep L (acc, k) x = (acc ++ [x], k) := if_neg h
      rw [e, cstep_all L l]
      by_cases hx : x = 0
      · have hk : k = 0 := by
          have : ¬ k > 0 := fun z => h ⟨hx, z⟩
          omega
        subst hk
        rw [charged_zero, charged_zero]
        simp
      · rw [charged_miss _ _ _ _ hx]
        simp
theorem take_more {α : Type} {l : List α} {i : Nat} {x : α} (h : l[i]? = some x) : l.take (i + 1) = l.take i ++ [x] := by
  rw [List.take_add_one, h]
  rfl
theorem cstep_len (L : Nat) : ∀ (l acc : List Nat) (k : Nat), (l.foldl (cstep L) (acc, k)).1.length = acc.length + l.length := fun l acc k => by
  rw [cstep_all, List.length_append, charged_len]
theorem nvs_snoc (l : List Nat) (n : Nat) : nvs (l ++ [n]) = nvs l ++ [nv n] := by
  unfold nvs
  rw [List.map_append]
  rfl
theorem sc_charged : FnScope ["left", "many", "hours", "found", "rest", "one"] ["left", "many", "hours"] (defScope s_charged) := ⟨rfl, rfl, rfl, by decide +kernel, rfl, by decide +kernel, by decide +kernel⟩
def spCharged : Sp := fun vs H Q _ => ∃ (a : Addr) (l : List Nat) (k L : Nat), vs = [.ref a, nv k, nv L] ∧ H a = some (.tup (nvs l)) ∧ l.length ≤ 1000 ∧ RetR (TupR (nvs (Mu14.charged L k l))) H Q
theorem nvs_at {l : List Nat} {i : Nat} {x : V} (h : (nvs l)[i]? = some x) : ∃ n, l[i]? = some n ∧ x = nv n := by
  unfold nvs at h
  rw [List.getElem?_map] at h
  cases e : l[i]? with
  | none => rw [e] at h; cases h
  | some n => rw [e] at h; exact ⟨n, rfl, (Option.some.inj h).symm⟩
theorem ok_charged (T : Txt K mg d) : Ok P w K mg base CX0 1 d.f_charged ["left", "many", "hours"] spCharged := by
  obtain ⟨fd, F, b⟩ := T.fn_charged
  refine ⟨fd, F.ok sc_charged (fun vs H Q E h => ?_) (fun cdv A outer s H vs Q E hr h => ?_), b⟩
  · obtain ⟨a, l, k, L, rfl, _⟩ := h
    rfl
  · obtain ⟨a, l, k, L, rfl, hl, hz, kq⟩ := h
    refine ⟨_, pss_cons (ps_set (i := 3) sc_charged.nd rfl (Or.inl rfl) (pe_tup pa_nil))
      (pss_cons (ps_set (i := 4) sc_charged.nd rfl (Or.inl rfl) (pv 1))
      (pss_cons (ps_for PassesOwn.never rfl (pi_tup (pv 0)) (pg_name (i := 5) sc_charged.nd rfl (Or.inl rfl))
        (pss_one (ps_if (PW.pt (pw_and (pt_cmpR op_eq (pv 5) pe_int (nomark _)) (pw_and1 (pt_cmpR op_gt (pv 4) pe_int (nomark _)))))
          (pss_cons (ps_set (i := 3) sc_charged.nd rfl (Or.inl rfl) (pe_op op_catA (pv 3) (pe_tup (pa_cons (pv 2) pa_nil)))) (pss_one (ps_set (i := 4) sc_charged.nd rfl (Or.inl rfl) (pe_op op_sub (pv 4) pe_int))))
          (pss_one (ps_set (i := 3) sc_charged.nd rfl (Or.inl rfl) (pe_op op_catA (pv 3) (pe_tup (pa_cons (pv 5) pa_nil))))))))
      (pss_one (ps_ret (pv 3))))), ?_⟩
    refine q_asgU (eu_tup ea_nil (by simp)) fun p0 H1 _ e1 hp0 => ?_
    refine q_asg (ev_var rfl) fun H2 e2 => ?_
    have e12 := e1.trans e2
    refine q_forT (xs := nvs l) (a := a) (ev_var rfl) (SqT.of (e12 _ _ hl)) (fun i σ' H' => ∃ (p : Addr) (o : Option V), σ' = [some (V.ref a), some (nv k), some (nv L), some (.ref p), some (nv ((l.take i).foldl (cstep L) ([], k)).2), o] ∧ Ex H H' ∧ H' p = some (.tup (nvs ((l.take i).foldl (cstep L) ([], k)).1)))
      (fun H3 e3 => ⟨p0, none, rfl, e12.trans e3, e3 _ _ (e2 _ _ hp0)⟩) (fun i σ' H' _ ⟨_, _, _, e, _⟩ => SqT.of (e _ _ hl)) ?_ ?_
    · rintro i x σ' H' hx ⟨p, o, rfl, eH, hp⟩
      obtain ⟨n, hn, rfl⟩ := nvs_at hx
      have hi : i < l.length := (List.getElem?_eq_some_iff.mp hn).1
      have st : (l.take (i + 1)).foldl (cstep L) ([], k) = cstep L ((l.take i).foldl (cstep L) ([], k)) n := by
        rw [take_more hn, List.foldl_append]
        rfl
      have hlen : ((l.take i).foldl (cstep L) ([], k)).1.length = i := by
        rw [cstep_len, List.length_take]
        simp
        omega
      generalize (l.take i).foldl (cstep L) ([], k) = s0 at st hp hlen
      refine s_if (et_and (et_test (ev_eqN (j := 0) (ev_var rfl) ev_c)) fun _ => et_test (ev_gtN (j := 0) (ev_var rfl) ev_c)) (fun c H3 e3 => ?_) (fun c H3 e3 => ?_)
      · have c' : n = 0 ∧ s0.2 > 0 := by
          simp only [Bool.and_eq_true, decide_eq_true_eq] at c
          exact c
        have est : cstep L s0 n = (s0.1 ++ [L], s0.2 - 1) := if_pos c'
        refine q_asgR (er_catA (ev_var rfl) (e3 _ _ hp) (eu_tup (ea_cons (ev_var rfl) ea_nil) (by simp)) (by simp) (by rw [nvs_len]; simp; omega)) fun v H4 e4 hv => ?_
        obtain ⟨q, rfl, hq⟩ := hv
        refine s_asg (ev_subN (j := 1) (ev_var rfl) ev_c (by omega)) fun H5 e5 => ?_
        refine ⟨q, some (nv n), ?_, (eH.trans e3).trans (e4.trans e5), ?_⟩
        · rw [st, est]
          rfl
        · rw [st, est, nvs_snoc]
          exact e5 _ _ hq
      · have c' : ¬ (n = 0 ∧ s0.2 > 0) := by
          intro z
          rw [decide_eq_true z.1, decide_eq_true z.2] at c
          cases c
        have est : cstep L s0 n = (s0.1 ++ [n], s0.2) := if_neg c'
        refine s_asgR (er_catA (ev_var rfl) (e3 _ _ hp) (eu_tup (ea_cons (ev_var rfl) ea_nil) (by simp)) (by simp) (by rw [nvs_len]; simp; omega)) fun v H4 e4 hv => ?_
        obtain ⟨q, rfl, hq⟩ := hv
        refine ⟨q, some (nv n), ?_, (eH.trans e3).trans e4, ?_⟩
        · rw [st, est]
          rfl
        · rw [st, est, nvs_snoc]
          exact hq
    · rintro σ' H' ⟨p, o, rfl, eH, hp⟩
      rw [nvs_len, List.take_length, cstep_all, List.nil_append] at hp
      exact s_ret (ev_var rfl) fun H3 e3 => kq _ H3 (eH.trans e3) ⟨p, rfl, e3 _ _ hp⟩
theorem filt_true {α : Type} (l : List α) : l.filter (fun _ => true) = l := List.filter_eq_self.mpr fun _ _ => rfl
/-! ### hour_passed -/
theorem sc_hour_passed : FnScope ["works", "moment", "many", "left", "given", "there", "wanted", "burnt", "leaked", "stays", "held", "after", "one"] ["works", "moment", "many"] (defScope s_hour_passed) := ⟨rfl, rfl, rfl, by decide +kernel, rfl, by decide +kernel, by decide +kernel⟩
def ToldR (d : Ads) (t : Tld) : V → Hp → Prop := fun v H' => ∃ a, v = .ref a ∧ ToldAt d H' a t
def spHour (d : Ads) : Sp := fun vs H Q _ => ∃ (wa ma : Addr) (W : Mu14.Works) (hours held : Nat) (l : List Nat) (k : Nat), vs = [.ref wa, .ref ma, nv k] ∧ WorksAt d H wa W ∧ MomentAt d H ma hours held l ∧ W.uses.length ≤ 8 ∧ l.length ≤ 1000 ∧ (∀ x ∈ l, x ≤ W.charge.length) ∧
  RetR (ToldR d (hourT W hours held l k)) H Q
theorem SpCharged.r {H : Hp} {a : Addr} {l : List Nat} {k L : Nat} (hl : H a = some (.tup (nvs l))) (hz : l.length ≤ 1000) : SpR spCharged [.ref a, nv k, nv L] H (TupR (nvs (Mu14.charged L k l))) := fun H1 e Q q E => ⟨a, l, k, L, rfl, e _ _ hl, hz, q⟩
theorem SpWanted.v {d : Ads} {H : Hp} {a : Addr} {W : Mu14.Works} {h : Nat} (hW : WorksAt d H a W) (hl : W.uses.length ≤ 8) (hh : h < 24) : SpV (spWanted d) [.ref a, nv h] H (nv (Mu14.wanted W h)) := fun H1 e Q q E => ⟨a, W, h, rfl, hW.mono e, hl, hh, q⟩
theorem SpGiven.v {d : Ads} {H : Hp} {a : Addr} {W : Mu14.Works} {n : Nat} (hW : WorksAt d H a W) (hl : n ≤ W.charge.length) : SpV (spGiven d) [.ref a, nv n] H (nv (Mu14.gives W n)) := fun H1 e Q q E => ⟨a, W, n, rfl, hW.mono e, hl, q⟩
theorem ok_hour_passed (T : Txt K mg d) : Ok P w K mg base CX0 6 d.f_hour_passed ["works", "moment", "many"] (spHour d) := by
  obtain ⟨fd, F, b⟩ := T.fn_hour_passed
  obtain ⟨fdC, GC, bC⟩ := ok_charged (P := P) (w := w) (base := base) T
  obtain ⟨fdG, GG, bG⟩ := ok_Works_given_by (P := P) (w := w) (base := base) T
  obtain ⟨fdW, GW, bW⟩ := ok_Works_wanted (P := P) (w := w) (base := base) T
  obtain ⟨fdM, GM, bM⟩ := ok_Moment_init (P := P) (w := w) (base := base) T
  obtain ⟨fdT, GT, bT⟩ := ok_Told_init (P := P) (w := w) (base := base) T
  refine ⟨fd, F.ok sc_hour_passed (fun vs H Q E h => ?_) (fun cdv A outer s H vs Q E hr h => ?_), b⟩
  · obtain ⟨wa, ma, W, hours, held, l, k, rfl, _⟩ := h
    rfl
  · obtain ⟨wa, ma, W, hours, held, l, k, rfl, hW, hM, hul, hz, hle, kq⟩ := h
    have hr1 : Room 1 _ := hr.mono (by decide)
    have hr2 : Room 2 _ := hr.mono (by decide)
    have hr3 : Room 3 _ := hr.mono (by decide)
    refine' ⟨_, pss_cons ?s1 (pss_cons ?s2 (pss_cons ?s3 (pss_cons ?s4 (pss_cons ?s5 (pss_cons ?s6 (pss_cons ?s7 (pss_cons ?s8 (pss_cons ?s9 (pss_one ?s10))))))))), ?_⟩
    case s1 => exact (ps_set (i := 3) sc_hour_passed.nd rfl (Or.inl rfl) (pe_call GC hr1 rfl T.g_charged T.k_charged bC .nil pass0 (by exact (pa_cons (pe_fld (pv 1) rfl) (pa_cons (pv 2) (pa_cons (pe_callB call_len_seq (by rfl) T.b_len PySem.boot_len (pa_cons (pe_fld (pv 0) rfl) pa_nil)) pa_nil))))))
    case s2 => exact (ps_set (i := 4) sc_hour_passed.nd rfl (Or.inl rfl) (pe_callB (cr_sum rfl) (by rfl) T.b_sum boot_sum (pa_cons (pe_lc (own := [("one", 12)]) (g := gName 12) rfl sc_hour_passed.nd (pi_tup (pv 3)) (blkOk_by (own := [("one", 12)]) (N := ["works", "moment", "many", "left", "given", "there", "wanted", "burnt", "leaked", "stays", "held", "after", "one"]) (sc := defScope s_hour_passed) (by decide +kernel))
        (fun _ _ _ _ _ => pg_name (i := 12) sc_hour_passed.nd rfl (Or.inl rfl)) (fun _ _ _ _ _ => pts_nil) (fun _ _ _ _ _ => pe_meth (pv 0) T.cl_Works T.me_Works_given_by GG hr1 bG .nil pass0 (by exact (pa_cons (pv 12) pa_nil)))) pa_nil)))
    case s3 => exact (ps_set (i := 5) sc_hour_passed.nd rfl (Or.inl rfl) (pe_op op_add (pe_fld (pv 1) rfl) (pv 4)))
    case s4 => exact (ps_set (i := 6) sc_hour_passed.nd rfl (Or.inl rfl) (pe_meth (pv 0) T.cl_Works T.me_Works_wanted GW hr3 bW .nil pass0 (pa_cons (pe_op op_mod (pe_fld (pv 1) rfl) (pe_gi T.k_HOURS_OF_DAY rfl)) pa_nil)))
    case s5 => exact (ps_set (i := 7) sc_hour_passed.nd rfl (Or.inl rfl) (pe_callB (call_min2 rfl) (by rfl) T.b_min boot_min (pa_cons (pv 6) (pa_cons (pv 5) pa_nil))))
    case s6 => exact (ps_set (i := 8) sc_hour_passed.nd rfl (Or.inl rfl) (pe_callB (call_min2 rfl) (by rfl) T.b_min boot_min (pa_cons (pe_fld (pv 0) rfl) (pa_cons (pe_op op_sub (pv 5) (pv 7)) pa_nil))))
    case s7 => exact (ps_set (i := 9) sc_hour_passed.nd rfl (Or.inl rfl) (pe_op op_sub (pe_op op_sub (pv 5) (pv 7)) (pv 8)))
    case s8 => exact (ps_set (i := 10) sc_hour_passed.nd rfl (Or.inl rfl) (pe_callB (call_min2 rfl) (by rfl) T.b_min boot_min (pa_cons (pv 9) (pa_cons (pe_fld (pv 0) rfl) pa_nil))))
    case s9 => exact (ps_set (i := 11) sc_hour_passed.nd rfl (Or.inl rfl) (pe_make T.mk_Moment GM hr2 rfl T.g_Moment bM .nil pass0 (pa_cons (pe_op op_add (pe_fld (pv 1) rfl) pe_int) (pa_cons (pv 10) (pa_cons (pe_callTy call_tuple_of (by rfl) T.b_tuple boot_tuple (pa_cons (pe_lc (own := [("one", 12)]) (g := gName 12) rfl sc_hour_passed.nd (pi_tup (pv 3)) (blkOk_by (own := [("one", 12)]) (N := ["works", "moment", "many", "left", "given", "there", "wanted", "burnt", "leaked", "stays", "held", "after", "one"]) (sc := defScope s_hour_passed) (by decide +kernel))
        (fun _ _ _ _ _ => pg_name (i := 12) sc_hour_passed.nd rfl (Or.inl rfl)) (fun _ _ _ _ _ => pts_nil) (fun _ _ _ _ _ => pe_callB (call_max2 rfl) (by rfl) T.b_max boot_max (by exact (pa_cons pe_int (pa_cons (pe_op op_sub (pv 12) pe_int) pa_nil))))) pa_nil)) pa_nil)))))
    case s10 => exact (ps_ret (pe_make T.mk_Told GT hr2 rfl T.g_Told bT .nil pass0 (pa_cons (pv 11) (pa_cons (pv 4) (pa_cons (pv 7) (pa_cons (pv 8) (pa_cons (pe_op op_sub (pv 9) (pv 10)) (pa_cons (pe_op op_sub (pv 6) (pv 7)) pa_nil))))))))
    obtain ⟨dx, c, u, uvs, w1, w2, w3, w4⟩ := id hW
    obtain ⟨mdx, ml, m1, m2⟩ := id hM
    let m := Mu14.total ((Mu14.charged W.charge.length k l).map (Mu14.gives W))
    let wn := Mu14.wanted W hours
    let x := held + m
    let ub := min wn x
    let e := min (Mu14.leakOf W) (x - ub)
    let z := x - ub - e
    let hl := min z (Mu14.cap W)
    -- left
    refine q_asgR (er_call (vs := [.ref ml, nv k, nv W.charge.length]) (dvs := []) (ea_cons (ev_fld (ev_var rfl) m1 T.cl_Moment T.na_Moment_left (lk_Moment_left _ _ _)) (ea_cons (ev_var rfl) (ea_cons (ev_cast (ev_lenS (ev_fld (ev_var rfl) w1 T.cl_Works T.na_Works_charge (lk_Works_charge _ _ _ _ _ _)) (.inr (SqT.of w2))) (by rw [nvs_len]; rfl)) ea_nil))) (SpCharged.r m2 hz)) fun v H1 e1 hv => ?_
    obtain ⟨lp, rfl, hlp⟩ := hv
    have hcl : (Mu14.charged W.charge.length k l).length ≤ 40000 := by
      rw [charged_len]
      omega
    have hcle := charged_le (k := k) hle
    -- given
    refine q_asg (v := nv m) (ev_sum (el_cast (el_cT (Mu14.charged W.charge.length k l) nv (fun _ => true) (fun n => nv (Mu14.gives W n)) (ev_var rfl) (SqT.of hlp) rfl hcl (fun x => rfl) (fun n hn H2 e2 => et_yes) (fun n hn hf H2 e2 => ev_meth (ev_var rfl) (e2 _ _ (e1 _ _ w1)) (lk_Works_no_given_by _ _ _ _ _ _) (ea_cons (ev_var rfl) ea_nil) (SpGiven.v (hW.mono (e1.trans e2)) (hcle n hn)))) ?_)) fun H2 e2 => ?_
    · rw [filt_true]
      unfold nvs
      rw [List.map_map]
      rfl
    have f2 := e1.trans e2
    refine q_asg (v := nv x) (ev_addN (ev_fld (ev_var rfl) (f2 _ _ m1) T.cl_Moment T.na_Moment_held (lk_Moment_held _ _ _)) (ev_var rfl)) fun H3 e3 => ?_
    have f3 := f2.trans e3
    refine q_asg (v := nv wn) (ev_cast (ev_meth (ev_var rfl) (f3 _ _ w1) (lk_Works_no_wanted _ _ _ _ _ _) (ea_cons (x := nv (hours % 24)) (ev_cast (ev_op (ev_fld (ev_var rfl) (f3 _ _ m1) T.cl_Moment T.na_Moment_hours (lk_Moment_hours _ _ _)) ev_c (rv_I (show (0 : Int) < 24 by decide))) ?_) ea_nil) (SpWanted.v (hW.mono f3) hul (Nat.mod_lt _ (by decide)))) ?_) fun H4 e4 => ?_
    · show V.int _ = V.int _
      congr 1
    · show nv (Mu14.wanted W (hours % 24)) = nv (Mu14.wanted W hours)
      unfold Mu14.wanted
      rw [Nat.mod_mod]
    have f4 := f3.trans e4
    refine q_asg (v := nv ub) (ev_min2 (ev_var rfl) (ev_var rfl)) fun H5 e5 => ?_
    have f5 := f4.trans e5
    refine q_asg (v := nv e) (ev_min2 (ev_fld (ev_var rfl) (f5 _ _ w1) T.cl_Works T.na_Works_leak (lk_Works_leak _ _ _ _ _ _)) (ev_subN (ev_var rfl) (ev_var rfl) (Nat.min_le_right _ _))) fun H6 e6 => ?_
    have f6 := f5.trans e6
    refine q_asg (v := nv z) (ev_subN (ev_subN (ev_var rfl) (ev_var rfl) (Nat.min_le_right _ _)) (ev_var rfl) (Nat.min_le_right _ _)) fun H7 e7 => ?_
    have f7 := f6.trans e7
    refine q_asg (v := nv hl) (ev_min2 (ev_var rfl) (ev_fld (ev_var rfl) (f7 _ _ w1) T.cl_Works T.na_Works_holds (lk_Works_holds _ _ _ _ _ _))) fun H8 e8 => ?_
    have f8 := f7.trans e8
    have hlp8 : H8 lp = some (.tup (nvs (Mu14.charged W.charge.length k l))) := e8 _ _ (e7 _ _ (e6 _ _ (e5 _ _ (e4 _ _ (e3 _ _ (e2 _ _ hlp))))))
    -- after
    refine q_asgR (er_make (RA := fun vs H' => ∃ q, vs = [nv (hours + 1), nv hl, .ref q] ∧ H' q = some (.tup (nvs ((Mu14.charged W.charge.length k l).map fun n => n - 1)))) ?_ ?_) ?_
    · refine ear_val (ev_addN (j := 1) (ev_fld (ev_var rfl) (f8 _ _ m1) T.cl_Moment T.na_Moment_hours (lk_Moment_hours _ _ _)) ev_c) fun H9 e9 => ear_val (ev_var rfl) fun H10 e10 => ?_
      have e910 := e9.trans e10
      refine ear_cons (er_tupleL (el_cast (el_cT (Mu14.charged W.charge.length k l) nv (fun _ => true) (fun n => nv (n - 1)) (ev_var rfl) (SqT.of (e910 _ _ hlp8)) rfl hcl (fun x => rfl) (fun n hn H2 e2 => et_yes) (fun n hn hf H2 e2 => ev_cast (ev_max0 ev_c (ev_op (ev_var rfl) ev_c rv_I0)) (by show nv _ = nv _; congr 1; omega))) rfl)) fun v H11 e11 hv => ear_nil fun H12 e12 => ?_
      obtain ⟨q, rfl, hq⟩ := hv
      refine ⟨q, rfl, ?_⟩
      rw [filt_true] at hq
      unfold nvs
      rw [List.map_map]
      exact e12 _ _ hq
    · rintro vs H' ⟨q, rfl, _⟩
      rfl
    · rintro v H9 e9 ⟨am, adx, vs, H0, rfl, ham, ⟨q, rfl, hq⟩, e0⟩
      refine s_retR (er_make (RA := fun vs H' => vs = [.ref am, nv m, nv ub, nv e, nv (z - hl), nv (wn - ub)]) (ear_of (vs := [.ref am, nv m, nv ub, nv e, nv (z - hl), nv (wn - ub)]) (ea_cons (ev_var rfl) (ea_cons (ev_var rfl) (ea_cons (ev_var rfl) (ea_cons (ev_var rfl) (ea_cons (ev_subN (ev_var rfl) (ev_var rfl) (Nat.min_le_left _ _)) (ea_cons (ev_subN (ev_var rfl) (ev_var rfl) (Nat.min_le_left _ _)) ea_nil)))))) fun _ _ => rfl) (fun vs H' hv => by rw [hv]; rfl)) ?_
      rintro v H10 e10 ⟨ta, tdx, vs, H11, rfl, hta, rfl, e11⟩
      exact kq _ H10 ((f8.trans e9).trans e10) ⟨ta, rfl, tdx, am, hta, adx, q, e10 _ _ ham, e10 _ _ (e0 _ _ hq)⟩
end
end G

namespace G
open PySem PySem.Spec PyProof.Rows L2 Evl
/-! ### what stands but for the dicts of the ext kind -/
def isExt : HO → Bool
  | .ext _ => true
  | _ => false
def ExN (H H' : Hp) : Prop := ∀ b o, isExt o = false → H b = some o → H' b = some o
theorem ExN.of {H H' : Hp} (e : Ex H H') : ExN H H' := fun b o _ h => e b o h
theorem ExN.trans {H H1 H2 : Hp} (a : ExN H H1) (b : ExN H1 H2) : ExN H H2 := fun c o n h => b c o n (a c o n h)
theorem ExN.refl (H : Hp) : ExN H H := fun _ _ _ h => h
theorem ExN.put {H H' : Hp} {a : Addr} {o : Obj} (h : H a = some (ndo a o)) (e : ∀ b, b ≠ a → H' b = H b) : ExN H H' := fun b x n hx => by
  by_cases hb : b = a
  · subst hb
    rw [h] at hx
    cases hx
    cases n
  · rw [e b hb]
    exact hx
theorem ExN.works {d : Ads} {H H' : Hp} {a : Addr} {W : Mu14.Works} (e : ExN H H') : WorksAt d H a W → WorksAt d H' a W := fun ⟨dx, c, u, uvs, h1, h2, h3, h4⟩ =>
  ⟨dx, c, u, uvs, e _ _ rfl h1, e _ _ rfl h2, e _ _ rfl h3, Paired.mapP h4 fun _ _ ⟨a, dx, nm, k1, k2, k3⟩ => ⟨a, dx, nm, k1, e _ _ rfl k2, e _ _ rfl k3⟩⟩
theorem ExN.mom {d : Ads} {H H' : Hp} {a : Addr} {p q : Nat} {l : List Nat} (e : ExN H H') : MomentAt d H a p q l → MomentAt d H' a p q l := fun ⟨dx, c, h1, h2⟩ => ⟨dx, c, e _ _ rfl h1, e _ _ rfl h2⟩
theorem ExN.key {H H' : Hp} {a : Addr} {k : PKey} (e : ExN H H') : KeyAt H a k → KeyAt H' a k := fun ⟨l, h1, h2⟩ => ⟨l, e _ _ rfl h1, e _ _ rfl h2⟩
theorem ExN.val {H H' : Hp} {a : Addr} {v : PVal} (e : ExN H H') : ValAt H a v → ValAt H' a v := fun ⟨l, h1, h2⟩ => ⟨l, e _ _ rfl h1, e _ _ rfl h2⟩
section
variable {K : PySem.W.Frag} {σ : L2.St} {H H' : Hp} {ta tb te : TE} {a : Addr} {tA : TA} {P : Program} {w : World}
/-- sorted of a tuple of numbers -/
theorem el_sortedT {l : List Nat} (ha : Ev ta σ H (.ref a)) (h : H a = some (.tup (nvs l))) : EvL (tCB (rSortedTI K) (tCons ta tNil)) σ H (nvs (sortN l)) := fun H1 e Q q =>
  ha H1 e _ fun H2 e2 => ⟨a, l.map fun (n : Nat) => (n : Int), rfl, by rw [← nvs_ints]; exact SqT.of (e2 _ _ (e _ _ h)), fun ns' p hp hs hn => by
    have k : ns' = (sortN l).map fun (n : Nat) => (n : Int) := by
      refine (hp.trans ((sortN_perm l).map _).symm).eq_of_pairwise (le := fun a b => a ≤ b) (fun a b _ _ ha hb => Int.le_antisymm ha hb) hs ?_
      exact List.pairwise_map.mpr ((sortN_sorted l).imp fun h => Int.ofNat_le.mpr h)
    rw [k, ← nvs_ints]
    exact q p _ (fresh_back e2 hn) (e2.trans (Ex.new hn)) upd_same⟩
def KeyR (k : PKey) : V → Hp → Prop := fun v H' => ∃ ka, v = .ref ka ∧ KeyAt H' ka k
def ValR (v : PVal) : V → Hp → Prop := fun x H' => ∃ va, x = .ref va ∧ ValAt H' va v
theorem rv_notInN {ka fa : Addr} {k : PKey} {t : Tab} (hk : KeyAt H ka k) (ht : TabAt P w H fa t) : RV (rNotInN P w) (.ref ka) (.ref fa) H (.bl (!(lkp t k).isSome)) := fun H1 e Q q => ⟨ka, k, fa, t, rfl, rfl, hk.mono e, ht.mono e, q H1 (Ex.refl H1)⟩
theorem er_getN {ka fa : Addr} {k : PKey} {t : Tab} {v : PVal} (ha : Ev ta σ H (.ref fa)) (hb : Ev tb σ H (.ref ka)) (hk : KeyAt H ka k) (ht : TabAt P w H fa t) (hl : lkp t k = some v) : EvR (tGetN P w ta tb) σ H (ValR v) := fun H1 e Q q =>
  ha H1 e _ fun H2 e2 => hb H2 (e.trans e2) _ fun H3 e3 => ⟨ka, k, fa, t, v, rfl, rfl, hk.mono ((e.trans e2).trans e3), ht.mono ((e.trans e2).trans e3), hl, fun va hv => q _ H3 (e2.trans e3) ⟨va, rfl, hv⟩⟩
theorem ev_opR {r : R2} {R : V → Hp → Prop} {x z : V} (ha : Ev ta σ H x) (hb : EvR tb σ H R) (hr : ∀ y H1, Ex H H1 → R y H1 → RV r x y H1 z) : Ev (tOp r ta tb) σ H z := fun H1 e Q q =>
  ha H1 e _ fun H2 e2 => hb H2 (e.trans e2) _ fun y H3 e3 hy => hr y H3 ((e.trans e2).trans e3) hy H3 (Ex.refl H3) Q fun H4 e4 => q H4 ((e2.trans e3).trans e4)
theorem rv_ltV {oa qa : Addr} {o q : PVal} (ho : ValAt H oa o) (hq : ValAt H qa q) (hl : o.2.2.length = q.2.2.length) : RV rLtV (.ref oa) (.ref qa) H (.bl (ltV o q)) := fun H1 e Q k => ⟨oa, qa, o, q, rfl, rfl, ho.mono e, hq.mono e, hl, k H1 (Ex.refl H1)⟩
theorem ev_meth0 {C dx : Addr} {fs : List (Str × V)} {m : Str} {sp : Sp} {dvs : List V} {E : XK} {z : V} (h : Ev ta σ H (.ref a)) (ha : H a = some (.ins C dx fs)) (l : fs.lookup m = none) (hs : SpV sp (.ref a :: dvs) H z) : Ev (tMeth C m sp dvs E ta tNil) σ H z := fun H1 e Q q =>
  h H1 e _ fun H2 e2 => ⟨a, dx, fs, rfl, e2 _ _ (e _ _ ha), l, hs H2 (e.trans e2) Q (fun H4 e4 => q H4 (e2.trans e4)) E⟩
end
section
variable {P : Program} {w : World} {K : PySem.W.Frag} {mg : Str → Option Value} {base : Heap} {d : Ads}
/-! ### state_of -/
theorem sc_state_of : FnScope ["moment"] ["moment"] (defScope s_state_of) := ⟨rfl, rfl, rfl, by decide +kernel, rfl, by decide +kernel, by decide +kernel⟩
def spState (d : Ads) : Sp := fun vs H Q _ => ∃ (a : Addr) (p q : Nat) (l : List Nat), vs = [.ref a] ∧ MomentAt d H a p q l ∧ l.length ≤ 1000 ∧ RetR (KeyR (q, sortN l)) H Q
theorem SpState.r {d : Ads} {H : Hp} {a : Addr} {p q : Nat} {l : List Nat} (hm : MomentAt d H a p q l) (hl : l.length ≤ 1000) : SpR (spState d) [.ref a] H (KeyR (q, sortN l)) := fun H1 e Q k E => ⟨a, p, q, l, rfl, hm.mono e, hl, k⟩
theorem ok_state_of (T : Txt K mg d) : Ok P w K mg base CX0 1 d.f_state_of ["moment"] (spState d) := by
  obtain ⟨fd, F, b⟩ := T.fn_state_of
  refine ⟨fd, F.ok sc_state_of (fun vs H Q E h => ?_) (fun cdv A outer s H vs Q E hr h => ?_), b⟩
  · obtain ⟨a, p, q, l, rfl, _⟩ := h
    rfl
  · obtain ⟨a, p, q, l, rfl, ⟨dx, c, h1, h2⟩, hl, k⟩ := h
    refine' ⟨_, pss_one ?s1, ?_⟩
    case s1 => exact ps_ret (pe_tup (pa_cons (pe_fld (pv 0) rfl) (pa_cons (pe_callTy call_tuple_of (by rfl) T.b_tuple boot_tuple (by exact (pa_cons (pe_callB cr_sortedTI (by rfl) T.b_sorted boot_sorted (by exact (pa_cons (pe_fld (pv 0) rfl) pa_nil))) pa_nil))) pa_nil)))
    refine s_retR (er_tup (RA := fun vs H' => ∃ l', vs = [nv q, .ref l'] ∧ H' l' = some (.tup (nvs (sortN l)))) ?_ ?_) ?_
    · refine ear_val (ev_fld (ev_var rfl) h1 T.cl_Moment T.na_Moment_held (lk_Moment_held _ _ _)) fun H1 e1 => ?_
      refine ear_cons (er_tupleL (el_sortedT (ev_fld (ev_var rfl) (e1 _ _ h1) T.cl_Moment T.na_Moment_left (lk_Moment_left _ _ _)) (e1 _ _ h2))) fun v H2 e2 hv => ear_nil fun H3 e3 => ?_
      obtain ⟨l', rfl, hl'⟩ := hv
      exact ⟨l', rfl, e3 _ _ hl'⟩
    · rintro vs H' ⟨l', rfl, _⟩
      show 2 ≤ 100000
      decide
    · rintro v H1 e1 ⟨pp, vs, H0, rfl, hp, ⟨l', rfl, hl'⟩, e0⟩
      exact k _ H1 e1 ⟨pp, rfl, l', hp, e0 _ _ hl'⟩
/-! ### continued -/
theorem sc_continued : FnScope ["works", "hours", "known", "found", "state", "charges", "blown", "plan", "moment", "many", "told", "one", "after"] ["works", "hours", "known"] (defScope s_continued) := ⟨rfl, rfl, rfl, by decide +kernel, rfl, by decide +kernel, by decide +kernel⟩
def TabR (P : Program) (w : World) (t : Tab) : V → Hp → Prop := fun v H' => ∃ a, v = .ref a ∧ TabAt P w H' a t
def spCont (P : Program) (w : World) (d : Ads) : Sp := fun vs H Q _ => ∃ (wa ka : Addr) (W : Mu14.Works) (hours r n : Nat) (t : Tab), vs = [.ref wa, nv hours, .ref ka] ∧ WorksAt d H wa W ∧ Whole W ∧ TabAt P w H ka t ∧ TOk W r n t ∧ r ≤ 3 ∧ n ≤ 1000 ∧
  RetR (TabR P w (cont W hours t)) H Q
theorem SpHour.r {d : Ads} {H : Hp} {wa ma : Addr} {W : Mu14.Works} {hours held : Nat} {l : List Nat} {k : Nat} (hW : WorksAt d H wa W) (hm : MomentAt d H ma hours held l) (hu : W.uses.length ≤ 8) (hl : l.length ≤ 1000) (hx : ∀ x ∈ l, x ≤ W.charge.length) :
    SpR (spHour d) [.ref wa, .ref ma, nv k] H (ToldR d (hourT W hours held l k)) := fun H1 e Q q E => ⟨wa, ma, W, hours, held, l, k, rfl, hW.mono e, hm.mono e, hu, hl, hx, q⟩
theorem SpEmpty.v {d : Ads} {H : Hp} {a : Addr} {p q : Nat} {l : List Nat} (hm : MomentAt d H a p q l) (hl : l.length ≤ 1000) : SpV (spEmpty d) [.ref a] H (nv (Mu14.idle l)) := fun H1 e Q k E => ⟨a, p, q, l, rfl, hm.mono e, hl, k⟩
theorem range_snoc {α : Type} (f : α → Nat → α) (s : α) (j : Nat) : (List.range (j + 1)).foldl f s = f ((List.range j).foldl f s) j := by
  rw [List.range_succ, List.foldl_append]
  rfl
theorem ok_continued (T : Txt K mg d) : Ok P w K mg base CX0 8 d.f_continued ["works", "hours", "known"] (spCont P w d) := by
  obtain ⟨fd, F, b⟩ := T.fn_continued
  obtain ⟨fdM, GM, bM⟩ := ok_Moment_init (P := P) (w := w) (base := base) T
  obtain ⟨fdE, GE, bE⟩ := ok_Moment_empty (P := P) (w := w) (base := base) T
  obtain ⟨fdH, GH, bH⟩ := ok_hour_passed (P := P) (w := w) (base := base) T
  obtain ⟨fdS, GS, bS⟩ := ok_state_of (P := P) (w := w) (base := base) T
  refine ⟨fd, F.ok sc_continued (fun vs H Q E h => ?_) (fun cdv A outer s H vs Q E hr h => ?_), b⟩
  · obtain ⟨wa, ka, W, hours, r, n, t, rfl, _⟩ := h
    rfl
  · obtain ⟨wa, ka, W, hours, r, n, t, rfl, hW, hwh, ⟨oK, hK⟩, hT, hr3, hn, k⟩ := h
    have hr1 : Room 1 _ := hr.mono (by decide)
    have hr2 : Room 2 _ := hr.mono (by decide)
    have hr6 : Room 6 _ := hr.mono (by decide)
    have hu := hr.units
    refine' ⟨_, pss_cons ?s1 (pss_cons ?s2 (pss_one ?s3)), ?_⟩
    case s1 => exact ps_set (i := 3) sc_continued.nd rfl (Or.inl rfl) pe_newN
    case s2 =>
      refine' ps_for PassesOwn.never rfl (pi_N (pv 2)) (pg_name (i := 4) sc_continued.nd rfl (Or.inl rfl)) (pss_cons ?b1 (pss_cons ?b2 (pss_one ?b3)))
      case b1 => exact ps_asg (pe_getN hu (pv 2) (pv 4) (fun _ _ => rfl)) (pg_tup rfl (pgs_cons (pg_name (i := 5) sc_continued.nd rfl (Or.inl rfl)) (pgs_cons (pg_name (i := 6) sc_continued.nd rfl (Or.inl rfl)) (pgs_cons (pg_name (i := 7) sc_continued.nd rfl (Or.inl rfl)) pgs_nil))))
      case b2 => exact ps_set (i := 8) sc_continued.nd rfl (Or.inl rfl) (pe_make T.mk_Moment GM hr2 rfl T.g_Moment bM .nil pass0 (pa_cons (pv 1) (pa_cons (pe_ix ix_tup (pv 4) pe_int (fun _ _ => rfl)) (pa_cons (pe_ix ix_tup (pv 4) pe_int (fun _ _ => rfl)) pa_nil))))
      case b3 =>
        refine' ps_for PassesOwn.never rfl (pi_range1 rfl T.b_range (pa_cons (pe_op op_add (pe_meth0 (pv 8) T.cl_Moment T.me_Moment_empty GE hr1 bE .nil pass0) pe_int) pa_nil)) (pg_name (i := 9) sc_continued.nd rfl (Or.inl rfl)) (pss_cons ?c1 (pss_cons ?c2 (pss_cons ?c3 (pss_one ?c4))))
        case c1 => exact ps_set (i := 10) sc_continued.nd rfl (Or.inl rfl) (pe_call GH hr6 rfl T.g_hour_passed T.k_hour_passed bH .nil pass0 (pa_cons (pv 0) (pa_cons (pv 8) (pa_cons (pv 9) pa_nil))))
        case c2 => exact ps_set (i := 11) sc_continued.nd rfl (Or.inl rfl) (pe_tup (pa_cons (pe_op op_add (pv 5) (pv 9)) (pa_cons (pe_op op_add (pv 6) (pe_fld (pv 10) rfl)) (pa_cons (pe_op op_catA (pv 7) (pe_tup (pa_cons (pv 9) pa_nil))) pa_nil))))
        case c3 => exact ps_set (i := 12) sc_continued.nd rfl (Or.inl rfl) (pe_call GS hr1 rfl T.g_state_of T.k_state_of bS .nil pass0 (pa_cons (pe_fld (pv 10) rfl) pa_nil))
        case c4 =>
          refine' ps_if ?tst (pss_one ?bd) pss_nil
          case tst =>
            refine' PW.pt (pw_and ?x1 (pw_and1 (PW.pt (pw_or ?x2 (pw_or1 ?x3)))))
            case x1 => exact pt_cmpR op_eq (pe_fld (pv 10) rfl) pe_int (nomark _)
            case x2 => exact pt_cmpR (op_notInN hu) (pv 12) (pv 3) (by rfl)
            case x3 => exact pt_cmpR (op_ltV hu) (pv 11) (pe_getN hu (pv 3) (pv 12) (fun _ _ => rfl)) (nomark _)
          case bd => exact ps_asg (pv 11) (pg_sub (pv 3) (pv 12) (set_N hu))
    case s3 => exact ps_ret (pv 3)
    -- found = {}
    intro fa hfa H1 ne1 ht1
    have x1 : Ex H H1 := fun b o hb => by
      rw [ne1 b (ne_of_none hb hfa)]
      exact hb
    refine ⟨_, rfl, ka, oK, t, rfl, hK.mono x1, for_N (fun i σ' H' => ∃ o4 o5 o6 o7 o8 o9 o10 o11 o12 : Option V, σ' = [some (V.ref wa), some (nv hours), some (.ref ka), some (.ref fa), o4, o5, o6, o7, o8, o9, o10, o11, o12] ∧ Ex H H' ∧ TabAt P w H' fa ((t.take i).foldl (contOne W hours) []))
      ⟨none, none, none, none, none, none, none, none, none, rfl, x1, ht1⟩ (fun i σ' H' _ ⟨_, _, _, _, _, _, _, _, _, _, e, _⟩ => hK.mono e) ?_ ?_⟩
    · rintro i kv sa σ' H2 hi hsa ⟨o4, o5, o6, o7, o8, o9, o10, o11, o12, rfl, x2, ht2⟩
      have hil : i < t.length := (List.getElem?_eq_some_iff.mp hi).1
      have hmem : kv ∈ t := List.mem_of_getElem? hi
      have kok := hT.ks kv hmem
      have hvl := hT.vs kv hmem
      have step : (t.take (i + 1)).foldl (contOne W hours) [] = contOne W hours ((t.take i).foldl (contOne W hours) []) kv := by
        rw [take_more hi, List.foldl_append]
        rfl
      have tok0 : TOk W r (n + 1) ((t.take i).foldl (contOne W hours) []) := tok_take hT
      generalize (t.take i).foldl (contOne W hours) [] = acc at step ht2 tok0
      -- charges, blown, plan = known[state]
      refine ⟨_, rfl, _, rfl, sa, kv.1, ka, t, kv.2, rfl, rfl, hsa, ⟨oK, hK.mono x2⟩, lkp_at hT.nd hi, fun va hva => ?_⟩
      obtain ⟨pl, hv1, hv2⟩ := hva
      refine ⟨va, _, rfl, SqT.of hv1, rfl, ⟨_, _, rfl, _, _, rfl, _, _, rfl, rfl, ?_⟩⟩
      -- moment
      obtain ⟨sl, hs1, hs2⟩ := hsa
      refine q_asgR (er_make (RA := fun vs H' => vs = [nv hours, nv kv.1.1, .ref sl] ) (ear_of (vs := [nv hours, nv kv.1.1, .ref sl]) (ea_cons (ev_var rfl) (ea_cons (ev_op (ev_var rfl) ev_c (rv_ixT (SqT.of hs1) rfl)) (ea_cons (ev_op (ev_var rfl) ev_c (rv_ixT (SqT.of hs1) rfl)) ea_nil))) fun _ _ => rfl) (fun vs H' hv => by rw [hv]; rfl)) ?_
      rintro v H3 e3 ⟨ma, mdx, vs, H0, rfl, hma, rfl, e0⟩
      have hM3 : MomentAt d H3 ma hours kv.1.1 kv.1.2 := ⟨mdx, sl, hma, e3 _ _ hs2⟩
      have x3 := x2.trans e3
      have hlen : kv.1.2.length ≤ 1000 := by
        rw [kok.2.1]
        omega
      have hidle : Mu14.idle kv.1.2 ≤ 1000 := Nat.le_trans (idle_le _) hlen
      -- the inner loop
      refine s_forR1 (n := ((Mu14.idle kv.1.2 + 1 : Nat) : Int)) (ea_cons (ev_addN (j := 1) (ev_meth0 (ev_var rfl) hma (lk_Moment_no_empty _ _ _) (SpEmpty.v hM3 hlen)) ev_c) ea_nil) (by omega)
        (fun j σ' H' => ∃ o9 o10 o11 o12 : Option V, σ' = [some (V.ref wa), some (nv hours), some (.ref ka), some (.ref fa), some (.ref sa), some (nv kv.2.1), some (nv kv.2.2.1), some (.ref pl), some (.ref ma), o9, o10, o11, o12] ∧ Ex H H' ∧ ExN H3 H' ∧ TabAt P w H' fa ((List.range j).foldl (contIn W hours kv) acc))
        (fun H4 e4 => ⟨o9, o10, o11, o12, rfl, x3.trans e4, ExN.of e4, ht2.mono (e3.trans e4)⟩) ?_ ?_
      · rintro j σ' H4 hj ⟨p9, p10, p11, p12, rfl, x4, n4, ht4⟩
        have hjN : j < Mu14.idle kv.1.2 + 1 := by omega
        have tokj : TOk W r (n + 1) ((List.range j).foldl (contIn W hours kv) acc) := tok_ins kok hvl _ _ tok0
        have stepj := range_snoc (contIn W hours kv) acc j
        generalize (List.range j).foldl (contIn W hours kv) acc = tj at ht4 tokj stepj
        have hW4 := hW.mono x4
        have hM4 := n4.mom hM3
        have hpl4 : H4 pl = some (.tup (nvs kv.2.2.2)) := n4 _ _ rfl (e3 _ _ hv2)
        -- told
        refine q_asgR (er_call (vs := [.ref wa, .ref ma, nv j]) (dvs := []) (ea_cons (ev_var rfl) (ea_cons (ev_var rfl) (ea_cons (ev_var rfl) ea_nil))) (SpHour.r hW4 hM4 hwh.ulen hlen kok.2.2)) ?_
        rintro v H5 e5 ⟨ta, rfl, tdx, tm, hta, htm⟩
        let ht := hourT W hours kv.1.1 kv.1.2 j
        let one : PVal := (kv.2.1 + j, kv.2.2.1 + ht.blown, kv.2.2.2 ++ [j])
        -- one
        refine q_asgR (R := ValR one) (er_mono (er_tup (RA := fun vs H' => ∃ q, vs = [nv (kv.2.1 + j), nv (kv.2.2.1 + ht.blown), .ref q] ∧ H' q = some (.tup (nvs (kv.2.2.2 ++ [j])))) ?_ ?_) ?_) ?_
        · refine ear_val (ev_addN (ev_var rfl) (ev_var rfl)) fun H6 e6 => ear_val (ev_addN (ev_var rfl) (ev_fld (ev_var rfl) (e6 _ _ hta) T.cl_Told T.na_Told_blown (lk_Told_blown _ _ _ _ _ _))) fun H7 e7 => ?_
          refine ear_cons (er_catA (ev_var rfl) (e7 _ _ (e6 _ _ (e5 _ _ hpl4))) (eu_tup (ea_cons (ev_var rfl) ea_nil) (by simp)) (by simp) (by rw [nvs_len, hvl]; simp; omega)) fun v H8 e8 hv => ear_nil fun H9 e9 => ?_
          obtain ⟨q, rfl, hq⟩ := hv
          refine ⟨q, rfl, ?_⟩
          rw [nvs_snoc]
          exact e9 _ _ hq
        · rintro vs H' ⟨q, rfl, _⟩
          show 3 ≤ 100000
          decide
        · rintro v H6 e6 ⟨pp, vs, H0, rfl, hp, ⟨q, rfl, hq⟩, e0⟩
          exact ⟨pp, rfl, q, hp, e0 _ _ hq⟩
        rintro v H6 e6 ⟨oa, rfl, hone⟩
        -- after
        have htlen : ht.left.length ≤ 1000 := by
          show ((Mu14.charged W.charge.length j kv.1.2).map _).length ≤ 1000
          rw [List.length_map, charged_len]
          exact hlen
        refine q_asgR (er_call (vs := [.ref tm]) (dvs := []) (ea_cons (ev_fld (ev_var rfl) (e6 _ _ hta) T.cl_Told T.na_Told_moment (lk_Told_moment _ _ _ _ _ _)) ea_nil) (SpState.r (htm.mono e6) htlen)) ?_
        rintro v H7 e7 ⟨aa, rfl, hafter⟩
        have x7 := ((x4.trans e5).trans e6).trans e7
        have n7 : ExN H3 H7 := n4.trans (ExN.of ((e5.trans e6).trans e7))
        have ht7 := ht4.mono ((e5.trans e6).trans e7)
        have hone7 := hone.mono e7
        have hta7 := e7 _ _ (e6 _ _ hta)
        -- the test
        have kafter := kok_hour (hours := hours) (k := j) kok
        have small := tab_small tokj (cap_le hwh) hwh.clen hr3
        have hcont : contIn W hours kv tj j = if ht.short = 0 ∧ isNew one (lkp tj (ht.held, sortN ht.left)) = true then putT tj (ht.held, sortN ht.left) one else tj := rfl
        have htest : EvT (tAnd (tTest (tOp rEq (tFld K (tVar 10) "short") (tC (.int 0)))) (tOr (tTest (tOp (rNotInN P w) (tVar 12) (tVar 3))) (tTest (tOp rLtV (tVar 11) (tGetN P w (tVar 3) (tVar 12)))))) [some (V.ref wa), some (nv hours), some (.ref ka), some (.ref fa), some (.ref sa), some (nv kv.2.1), some (nv kv.2.2.1), some (.ref pl), some (.ref ma), some (nv j), some (.ref ta), some (.ref oa), some (.ref aa)] H7 (decide (ht.short = 0) && isNew one (lkp tj (ht.held, sortN ht.left))) := by
          refine et_and (et_test (ev_eqN (j := 0) (ev_fld (ev_var rfl) hta7 T.cl_Told T.na_Told_short (lk_Told_short _ _ _ _ _ _)) ev_c)) fun _ => ?_
          cases hl : lkp tj (ht.held, sortN ht.left) with
          | none =>
            refine et_is (et_or (b := true) (et_test (ev_op (ev_var rfl) (ev_var rfl) (rv_notInN hafter ht7))) fun z => ?_) ?_
            · rw [hl] at z
              cases z
            · rw [hl]
              rfl
          | some q =>
            refine et_is (et_or (b := ltV one q) (et_test (ev_op (ev_var rfl) (ev_var rfl) (rv_notInN hafter ht7))) fun z => ?_) ?_
            · refine et_test (ev_opR (ev_var rfl) (er_getN (ev_var rfl) (ev_var rfl) hafter ht7 hl) fun y H8 e8 hy => ?_)
              obtain ⟨qa, rfl, hqa⟩ := hy
              refine rv_ltV (hone7.mono e8) hqa ?_
              obtain ⟨kq, hkq⟩ : ∃ kq, kq ∈ tj ∧ kq.2 = q := by
                unfold lkp at hl
                obtain ⟨x, hx, hx2⟩ := Option.map_eq_some_iff.mp hl
                exact ⟨x, List.mem_of_find?_eq_some hx, hx2⟩
              rw [← hkq.2, tokj.vs kq hkq.1]
              simp [one, hvl]
            · rw [hl]
              rfl
        refine s_when htest (fun c H8 e8 => ?_) (fun c H8 e8 => ?_)
        · have c' : ht.short = 0 ∧ isNew one (lkp tj (ht.held, sortN ht.left)) = true := by
            simpa using c
          rw [if_pos c'] at hcont
          have ht8 := ht7.mono e8
          obtain ⟨o8, xs8, hf8, hrest8⟩ := id ht8
          refine ⟨_, rfl, _, rfl, _, rfl, fa, aa, (ht.held, sortN ht.left), tj, oa, one, rfl, rfl, rfl, hafter.mono e8, hone7.mono e8, ht8, by omega, fun H9 ne9 ht9 => ?_⟩
          refine ⟨some (nv j), some (.ref ta), some (.ref oa), some (.ref aa), rfl, fun b o hb => ?_, (n7.trans (ExN.of e8)).trans (ExN.put hf8 ne9), ?_⟩
          · rw [ne9 b (ne_of_none hb hfa)]
            exact e8 _ _ (x7 _ _ hb)
          · rw [stepj, hcont]
            exact ht9
        · have c' : ¬ (ht.short = 0 ∧ isNew one (lkp tj (ht.held, sortN ht.left)) = true) := by
            intro z
            rw [decide_eq_true z.1, z.2] at c
            cases c
          rw [if_neg c'] at hcont
          refine ⟨some (nv j), some (.ref ta), some (.ref oa), some (.ref aa), rfl, x7.trans e8, n7.trans (ExN.of e8), ?_⟩
          rw [stepj, hcont]
          exact ht7.mono e8
      · rintro σ' H4 ⟨p9, p10, p11, p12, rfl, x4, n4, ht4⟩
        rw [Int.toNat_natCast] at ht4
        refine ⟨_, _, _, _, _, _, _, _, _, rfl, x4, ?_⟩
        rw [step]
        exact ht4
    · rintro σ' H2 ⟨o4, o5, o6, o7, o8, o9, o10, o11, o12, rfl, x2, ht2⟩
      rw [List.take_length] at ht2
      exact s_ret (ev_var rfl) fun H3 e3 => k _ H3 (x2.trans e3) ⟨fa, rfl, ht2.mono e3⟩
end
end G

namespace G
open PySem PySem.Spec PyProof.Rows L2 Evl
/-! ### lists as data -/
theorem lay_encN : ∀ l : List Nat, PyData.canLayAll0 (encN l) = true
  | [] => by simp [encN, PyData.canLayAll0]
  | n :: l => by
    have := lay_encN l
    unfold encN at this ⊢
    rw [List.map_cons, PyData.canLayAll0, this]
    simp [PyData.canLay0]
theorem lay_encVs : ∀ l : List PVal, PyData.canLayAll0 (l.map encV) = true
  | [] => by simp [PyData.canLayAll0]
  | v :: l => by
    rw [List.map_cons, PyData.canLayAll0, lay_encVs l]
    simp [encV, PyData.canLay0, PyData.canLayAll0, lay_encN]
theorem depth_encVs : ∀ l : List PVal, PyData.depthAll (l.map encV) ≤ 4
  | [] => by simp [PyData.depthAll]
  | v :: l => by
    rw [List.map_cons, PyData.depthAll]
    have h1 := depth_encV v
    have h2 := depth_encVs l
    omega
theorem shaped_encVs (l : List PVal) : SeqAt.shaped (.list (l.map encV)) = true := by
  unfold SeqAt.shaped
  rw [PyData.canLay0, lay_encVs, PyData.depth]
  have := depth_encVs l
  simp
  omega
theorem dp_encN {K : PySem.W.Frag} {H : Hp} : ∀ l : List Nat, DpAll K H (nvs l) (encN l)
  | [] => .nil
  | _ :: l => .cons (.int _) (dp_encN l)
theorem dp_encV {K : PySem.W.Frag} {H : Hp} {a : Addr} {v : PVal} (h : ValAt H a v) : Dp K H (.ref a) (encV v) := by
  obtain ⟨l, h1, h2⟩ := h
  exact .tup (SqT.of h1) (.cons (.int _) (.cons (.int _) (.cons (.tup (SqT.of h2) (dp_encN _)) .nil)))
theorem dp_encVs {K : PySem.W.Frag} {H : Hp} : ∀ {xs : List V} {ps : List PVal}, ValsAt H xs ps → DpAll K H xs (ps.map encV)
  | _, _, .nil => .nil
  | _, _, .cons ⟨va, e, hv⟩ t => by
    subst e
    exact .cons (dp_encV hv) (dp_encVs t)
theorem ValsAt.mono {H H' : Hp} (e : Ex H H') {xs : List V} {ps : List PVal} (h : ValsAt H xs ps) : ValsAt H' xs ps := Paired.mapP h fun _ _ ⟨va, h1, h2⟩ => ⟨va, h1, h2.mono e⟩
theorem rv_eqD {K : PySem.W.Frag} {H : Hp} {x y : V} {da db : PyData} (h : ∀ H1, Ex H H1 → Dp K H1 x da ∧ Dp K H1 y db) (sa : SeqAt.shaped da = true) (sb : SeqAt.shaped db = true) : RV (rEqD K) x y H (.bl (PyData.eqv da db)) := fun H1 e Q q => ⟨da, db, (h H1 e).1, (h H1 e).2, sa, sb, q H1 (Ex.refl H1)⟩
section
variable {K : PySem.W.Frag} {σ : L2.St} {H H' : Hp} {ta tb te td : TE} {a : Addr} {P : Program} {w : World}
/-- [d[k] for k in d] -/
theorem er_compN {t : Tab} {j : Nat} (hnd : (t.map (·.1)).Nodup) (hz : t.length ≤ 100000) (h : Ev td σ H (.ref a)) (ht : TabAt P w H a t) (hw : ∀ x, wipe ((wipe σ [j]).set j (some x)) [j] = wipe σ [j]) (hd : ∀ x H1, Ex H H1 → Ev ta ((wipe σ [j]).set j (some x)) H1 (.ref a)) (hb : ∀ x H1, Ev tb ((wipe σ [j]).set j (some x)) H1 x) :
    EvR (tLc (iN P w td) (gName j) tYes (tGetN P w ta tb) [j]) σ H (fun v H' => ∃ p ys, v = .ref p ∧ H' p = some (.lst ys) ∧ ValsAt H' ys (t.map (·.2))) := fun H0 e Q q => h H0 e _ fun H1 e1 => by
  obtain ⟨o, ho⟩ := ht
  have ho1 := ho.mono (e.trans e1)
  refine ⟨a, o, t, rfl, ho1, fun Dl hD => lc_N (fun i H' => Ex H1 H' ∧ ∃ ys, H' Dl = some (.lst ys) ∧ ValsAt H' ys ((t.take i).map (·.2))) ⟨Ex.new hD, [], upd_same, .nil⟩ (fun i H' _ p => ho1.mono p.1) ?_ ?_⟩
  · rintro i kv ka H' hi hk ⟨e2, ys, hy, hv⟩
    refine ⟨hw _, ?_⟩
    dsimp only [tYes]
    rw [if_pos rfl]
    have e02 := (e.trans e1).trans e2
    refine er_getN (hd _ H' e02) (hb _ H') hk ⟨o, ho1.mono e2⟩ (lkp_at hnd hi) H' (Ex.refl H') _ ?_
    rintro v H2 e3 ⟨va, rfl, hva⟩
    refine ⟨ys, e3 _ _ hy, ?_, fun b x hb => ?_, ys ++ [.ref va], upd_same, ?_⟩
    · have : ys.length = (t.take i).length := by
        rw [Paired.length hv, List.length_map]
      rw [List.length_take] at this
      exact sz_lt (by
        have := (List.getElem?_eq_some_iff.mp hi).1
        omega)
    · rw [upd_ne (ne_of_none hb hD)]
      exact e3 _ _ (e2 _ _ hb)
    · rw [take_more hi, List.map_append]
      have k : ∀ {xs : List V} {ps : List PVal}, ValsAt H2 xs ps → ValsAt (upd H2 Dl (.lst (ys ++ [.ref va]))) xs ps := fun {xs ps} h => Paired.mapP h fun _ _ ⟨v', h1, l, h2, h3⟩ =>
        ⟨v', h1, l, by rw [upd_ne (fun z => by rw [z, e3 _ _ hy] at h2; cases h2)]; exact h2, by rw [upd_ne (fun z => by rw [z, e3 _ _ hy] at h3; cases h3)]; exact h3⟩
      exact k (Paired.snoc (hv.mono e3) ⟨va, rfl, hva⟩)
  · rintro H' ⟨e2, ys, hy, hv⟩
    rw [List.take_length] at hv
    exact q _ H' (e1.trans e2) ⟨Dl, ys, rfl, hy, hv⟩
end
theorem er_sortedV {K : PySem.W.Frag} {σ : L2.St} {H : Hp} {te : TE} {ps : List PVal} {n : Nat} (h : EvR te σ H (fun v H' => ∃ p ys, v = .ref p ∧ H' p = some (.lst ys) ∧ ValsAt H' ys ps)) (hz : ps.length ≤ 100000) (hn : ∀ p ∈ ps, p.2.2.length = n) :
    EvR (tCB (rSortedV K) (tCons te tNil)) σ H (fun v H' => ∃ p zs qs, v = .ref p ∧ H' p = some (.lst zs) ∧ qs.Perm ps ∧ qs.Pairwise (fun a b => ltV b a = false) ∧ ValsAt H' zs qs) := fun H1 e Q q => h H1 e _ fun v H2 e2 hv => by
  obtain ⟨lp, ys, rfl, hlp, hys⟩ := hv
  exact ⟨lp, ys, ps, n, rfl, SqL.of hlp, hys, hz, hn, fun sp zs qs hsp hperm hpw hzs => q _ _ (e2.trans (Ex.new hsp)) ⟨sp, zs, qs, rfl, upd_same, hperm, hpw, hzs.mono (Ex.new hsp)⟩⟩
section
variable {P : Program} {w : World} {K : PySem.W.Frag} {mg : Str → Option Value} {base : Heap} {d : Ads}
/-! ### best_plan -/
theorem sc_best_plan : FnScope ["works", "moment", "many", "known", "k", "found", "state"] ["works", "moment", "many"] (defScope s_best_plan) := ⟨rfl, rfl, rfl, by decide +kernel, rfl, by decide +kernel, by decide +kernel⟩
def BestR (s : Mu14.State) (n : Nat) : V → Hp → Prop := fun v H' => match Mu14.best s n with
  | none => v = .non
  | some p => POk s n p ∧ ∃ a, v = .ref a ∧ ValAt H' a (toKV s p).2
def BHd (s : Mu14.State) (n : Nat) : List PVal → Prop
  | [] => Mu14.best s n = none
  | v :: _ => ∃ p, Mu14.best s n = some p ∧ POk s n p ∧ v = (toKV s p).2
def spBest (d : Ads) : Sp := fun vs H Q _ => ∃ (wa ma : Addr) (s : Mu14.State) (n : Nat), vs = [.ref wa, .ref ma, nv n] ∧ WorksAt d H wa s.works ∧ MomentAt d H ma s.hour s.level s.busy ∧ SOk s ∧ n ≤ 16 ∧ RetR (BestR s n) H Q
theorem SpCont.r {H : Hp} {wa ka : Addr} {W : Mu14.Works} {hours r n : Nat} {t : Tab} (hW : WorksAt d H wa W) (hwh : Whole W) (ht : TabAt P w H ka t) (hT : TOk W r n t) (hr : r ≤ 3) (hn : n ≤ 1000) : SpR (spCont P w d) [.ref wa, nv hours, .ref ka] H (TabR P w (cont W hours t)) :=
  fun H1 e Q q E => ⟨wa, ka, W, hours, r, n, t, rfl, hW.mono e, hwh, ht.mono e, hT, hr, hn, q⟩
theorem ok_best_plan (T : Txt K mg d) : Ok P w K mg base CX0 10 d.f_best_plan ["works", "moment", "many"] (spBest d) := by
  obtain ⟨fd, F, b⟩ := T.fn_best_plan
  obtain ⟨fdS, GS, bS⟩ := ok_state_of (P := P) (w := w) (base := base) T
  obtain ⟨fdC, GC, bC⟩ := ok_continued (P := P) (w := w) (base := base) T
  refine ⟨fd, F.ok sc_best_plan (fun vs H Q E h => ?_) (fun cdv A outer s H vs Q E hr h => ?_), b⟩
  · obtain ⟨wa, ma, st, n, rfl, _⟩ := h
    rfl
  · obtain ⟨wa, ma, st, n, rfl, hW, hM, hS, hn, k⟩ := h
    have hr1 : Room 1 _ := hr.mono (by decide)
    have hr8 : Room 8 _ := hr.mono (by decide)
    have hu := hr.units
    refine' ⟨_, pss_cons ?s1 (pss_cons ?s2 (pss_cons ?s3 (pss_cons ?s4 (pss_one ?s5)))), ?_⟩
    case s1 => exact ps_set (i := 3) sc_best_plan.nd rfl (Or.inr rfl) (pe_dispN hu (pe_call GS hr1 rfl T.g_state_of T.k_state_of bS .nil pass0 (pa_cons (pv 1) pa_nil)) (pe_tup (pa_cons pe_int (pa_cons pe_int (pa_cons (pe_tup pa_nil) pa_nil)))))
    case s2 =>
      refine' ps_for PassesOwn.never rfl (pi_range1 rfl T.b_range (pa_cons (pv 2) pa_nil)) (pg_name (i := 4) sc_best_plan.nd rfl (Or.inl rfl)) (pss_one ?b1)
      case b1 => exact ps_set (i := 3) sc_best_plan.nd rfl (Or.inr rfl) (pe_call GC hr8 rfl T.g_continued T.k_continued bC .nil pass0 (pa_cons (pv 0) (pa_cons (pe_op op_add (pe_fld (pv 1) rfl) (pv 4)) (pa_cons (pv 3) pa_nil))))
    case s3 => exact ps_set (i := 5) sc_best_plan.nd rfl (Or.inl rfl) (pe_callB (cr_sortedV hu) (by rfl) T.b_sorted boot_sorted (pa_cons (pe_lc (own := [("state", 6)]) (g := gName 6) (te := tGetN P w (tVar 3) (tVar 6)) rfl sc_best_plan.nd (pi_N (pv 3)) (blkOk_by (own := [("state", 6)]) (N := ["works", "moment", "many", "known", "k", "found", "state"]) (sc := defScope s_best_plan) (by decide +kernel))
      (fun _ _ _ _ _ => pg_name (i := 6) sc_best_plan.nd rfl (Or.inl rfl)) (fun _ _ _ _ _ => pts_nil) (fun _ _ _ _ _ => by exact (pe_getN hu (pv 3) (pv 6) (fun _ _ => rfl)))) pa_nil))
    case s4 => exact ps_if (pt_cmpR (op_eqD hu) (pv 5) (pe_lst pa_nil) (nomark _)) (pss_one (ps_ret pe_non)) pss_nil
    case s5 => exact ps_ret (pe_ix ix_list (pv 5) pe_int (fun _ _ => rfl))
    have hb3 := sok_len hS
    -- known
    intro fa hfa H1 ne1 ht1
    have x1 : Ex H H1 := fun b o hb => by
      rw [ne1 b (ne_of_none hb hfa)]
      exact hb
    refine er_call (vs := [.ref ma]) (dvs := []) (R := KeyR (st.level, sortN st.busy)) (ea_cons (ev_var rfl) ea_nil) (SpState.r (hM.mono x1) (by omega)) H1 (Ex.refl H1) _ ?_
    rintro v H2 e2 ⟨ka, rfl, hka⟩
    refine er_tup (RA := fun vs H' => ∃ q, vs = [nv 0, nv 0, .ref q] ∧ H' q = some (.tup (nvs []))) ?_ ?_ H2 (Ex.refl H2) _ ?_
    · refine ear_val (v := nv 0) ev_c fun H3 e3 => ear_val (v := nv 0) ev_c fun H4 e4 => ear_cons (er_U (eu_tup ea_nil (by simp))) fun v H5 e5 hv => ear_nil fun H6 e6 => ?_
      obtain ⟨q, rfl, hq⟩ := hv
      exact ⟨q, rfl, e6 _ _ hq⟩
    · rintro vs H' ⟨q, rfl, _⟩
      show 3 ≤ 100000
      decide
    rintro v H3 e3 ⟨va, vs, H0, rfl, hva, ⟨q, rfl, hq⟩, e0⟩
    refine ⟨ka, (st.level, sortN st.busy), va, (0, 0, []), rfl, rfl, hka.mono e3, ⟨q, hva, e0 _ _ hq⟩, ht1.mono (e2.trans e3), fun H4 ne4 ht4 => ?_⟩
    have x4 : Ex H H4 := fun b o hb => by
      rw [ne4 b (ne_of_none hb hfa)]
      exact e3 _ _ (e2 _ _ (x1 _ _ hb))
    -- the loop
    refine q_forR1 (n := (n : Int)) (ea_cons (ev_var rfl) ea_nil) (by omega) (fun j σ' H' => ∃ (kj : Addr) (o4 : Option V), σ' = [some (V.ref wa), some (.ref ma), some (nv n), some (.ref kj), o4, none, none] ∧ Ex H H' ∧ TabAt P w H' kj (conts st.works st.hour j (tab0 st)))
      (fun H5 e5 => ⟨fa, none, rfl, x4.trans e5, ht4.mono e5⟩) ?_ ?_
    · rintro j σ' H5 hj ⟨kj, o4, rfl, x5, ht5⟩
      obtain ⟨mdx, ml, m1, m2⟩ := hM.mono x5
      refine s_asgR (er_call (vs := [.ref wa, nv (st.hour + j), .ref kj]) (dvs := []) (ea_cons (ev_var rfl) (ea_cons (ev_addN (ev_fld (ev_var rfl) m1 T.cl_Moment T.na_Moment_hours (lk_Moment_hours _ _ _)) (ev_var rfl)) (ea_cons (ev_var rfl) ea_nil))) (SpCont.r (hW.mono x5) hS.w ht5 (tok_conts j 0 st.hour (tab0 st) (tok_tab0 hS)) hb3.2 (by omega))) ?_
      rintro v H6 e6 ⟨kk, rfl, hkk⟩
      refine ⟨kk, _, rfl, x5.trans e6, ?_⟩
      rw [conts_snoc]
      exact hkk
    · rintro σ' H5 ⟨kj, o4, rfl, x5, ht5⟩
      rw [Int.toNat_natCast] at ht5
      have tok := tok_conts n 0 st.hour (tab0 st) (tok_tab0 hS)
      have small := tab_small tok (cap_le hS.w) hS.w.clen hb3.2
      have bh : ∀ qs : List PVal, qs.Perm ((conts st.works st.hour n (tab0 st)).map (·.2)) → qs.Pairwise (fun a b => ltV b a = false) → BHd st n qs := fun qs h1 h2 => by
        have z := best_head hS (n := n) h1 h2
        cases qs <;> exact z
      generalize conts st.works st.hour n (tab0 st) = t at ht5 tok small bh
      -- found
      refine q_asgR (er_sortedV (n := 0 + n) (er_compN tok.nd (by omega) (ev_var rfl) ht5 (fun x => rfl) (fun x H6 e6 => ev_var rfl) (fun x H6 => ev_var rfl)) (by rw [List.length_map]; omega) (fun p hp => ?_)) ?_
      · obtain ⟨kv, hkv, rfl⟩ := List.mem_map.mp hp
        exact tok.vs kv hkv
      rintro v H7 e7 ⟨sp, zs, qs, rfl, hsp7, hperm, hpw, hzs7⟩
      have x7 := x5.trans e7
      have hbest := bh qs hperm hpw
      have ql : qs.length ≤ 1984 := by
        rw [hperm.length_eq, List.length_map]
        exact small
      refine q_when (et_test (ev_opL (ev_var rfl) (el_lst ea_nil (by simp)) fun np H8 hnp e8 => rv_eqD (da := .list (qs.map encV)) (db := .list []) (fun H9 e9 => ⟨.lst (SqL.of (e9 _ _ (e8 _ _ hsp7))) (dp_encVs (hzs7.mono (e8.trans e9))), .lst (SqL.of (e9 _ _ hnp)) .nil⟩) (shaped_encVs qs) (shaped_encVs []))) (fun c H8 e8 => ?_) (fun c H8 e8 => ?_)
      · cases qs with
        | nil =>
          have hb : Mu14.best st n = none := hbest
          refine s_ret ev_c fun H9 e9 => k _ H9 ((x7.trans e8).trans e9) ?_
          unfold BestR
          rw [hb]
        | cons q r => exact absurd c (by simp [PyData.eqv, PyData.eqvAll])
      · cases qs with
        | nil => exact absurd c (by simp [PyData.eqv, PyData.eqvAll])
        | cons q r =>
          obtain ⟨p, hb, hpok, hq⟩ := hbest
          cases hzs7 with
          | cons hz hzt =>
            obtain ⟨va, rfl, hva⟩ := hz
            refine s_ret (ev_op (ev_var rfl) ev_c (rv_ixL (v := V.ref va) (SqL.of (e8 _ _ hsp7)) (atI_nat (j := 0) rfl))) fun H9 e9 => k _ H9 ((x7.trans e8).trans e9) ?_
            unfold BestR
            rw [hb]
            refine ⟨hpok, va, rfl, ?_⟩
            rw [← hq]
            exact hva.mono (e8.trans e9)
end
end G

namespace G
open PySem PySem.Spec PyProof.Rows L2 Evl
/-! ### lists of words -/
abbrev LL (H : Hp) : List V → List (List Nat) → Prop := Paired fun v w => ∃ a, v = .ref a ∧ H a = some (.lst (nvs w))
theorem LL.mono {H H' : Hp} (e : Ex H H') {vs : List V} {ws : List (List Nat)} (h : LL H vs ws) : LL H' vs ws := Paired.mapP h fun _ _ ⟨a, h1, h2⟩ => ⟨a, h1, e _ _ h2⟩
/-- .. that are new since H0 -/
abbrev LF (H0 H : Hp) : List V → List (List Nat) → Prop := Paired fun v w => ∃ a, v = .ref a ∧ H0 a = none ∧ H a = some (.lst (nvs w))
theorem LF.ll {H0 H : Hp} {vs : List V} {ws : List (List Nat)} (h : LF H0 H vs ws) : LL H vs ws := Paired.mapP h fun _ _ ⟨a, h1, _, h2⟩ => ⟨a, h1, h2⟩
theorem LF.mono {H0 H H' : Hp} (e : Ex H H') {vs : List V} {ws : List (List Nat)} (h : LF H0 H vs ws) : LF H0 H' vs ws := Paired.mapP h fun _ _ ⟨a, h1, h0, h2⟩ => ⟨a, h1, h0, e _ _ h2⟩
theorem LF.back {H0 H1 H : Hp} (e : Ex H0 H1) {vs : List V} {ws : List (List Nat)} (h : LF H1 H vs ws) : LF H0 H vs ws := Paired.mapP h fun _ _ ⟨a, h1, h0, h2⟩ => ⟨a, h1, fresh_back e h0, h2⟩
/-- an object that is none of them changes -/
theorem LF.upd {H0 H : Hp} {p : Addr} {o : HO} : ∀ {vs : List V} {ws : List (List Nat)}, LF H0 H vs ws → (∀ v ∈ vs, v ≠ .ref p) → LF H0 (L2.upd H p o) vs ws
  | _, _, .nil, _ => .nil
  | _, _, .cons ⟨a, h1, h0, h2⟩ t, n => .cons ⟨a, h1, h0, by rw [upd_ne (fun z => n _ List.mem_cons_self (by rw [h1, z]))]; exact h2⟩ (LF.upd t fun v hv => n v (List.mem_cons_of_mem _ hv))
def PartsR (H0 : Hp) (ws : List (List Nat)) : V → Hp → Prop := fun v H' => ∃ p vs, v = .ref p ∧ H0 p = none ∧ H' p = some (.lst vs) ∧ LF H0 H' vs ws
/-! ### words as data -/
theorem shaped_encN (l : List Nat) : SeqAt.shaped (.list (encN l)) = true := by
  unfold SeqAt.shaped
  rw [PyData.canLay0, lay_encN, PyData.depth, depth_encN]
  decide
theorem eqv_encN : ∀ a b : List Nat, PyData.eqvAll (encN a) (encN b) = decide (a = b)
  | [], [] => by simp [encN, PyData.eqvAll]
  | [], _ :: _ => by simp [encN, PyData.eqvAll]
  | _ :: _, [] => by simp [encN, PyData.eqvAll]
  | x :: a, y :: b => by
    have ih := eqv_encN a b
    unfold encN at ih ⊢
    rw [List.map_cons, List.map_cons, PyData.eqvAll, ih, eqv_int]
    by_cases h : x = y <;> simp [h]
theorem lay_words : ∀ l : List (List Nat), PyData.canLayAll0 (l.map fun w => .list (encN w)) = true
  | [] => by simp [PyData.canLayAll0]
  | w :: l => by
    rw [List.map_cons, PyData.canLayAll0, lay_words l, PyData.canLay0, lay_encN]
    rfl
theorem depth_words : ∀ l : List (List Nat), PyData.depthAll (l.map fun w => .list (encN w)) ≤ 1
  | [] => by simp [PyData.depthAll]
  | w :: l => by
    rw [List.map_cons, PyData.depthAll, PyData.depth, depth_encN]
    have := depth_words l
    omega
theorem shaped_words (l : List (List Nat)) : SeqAt.shaped (.list (l.map fun w => .list (encN w))) = true := by
  unfold SeqAt.shaped
  rw [PyData.canLay0, lay_words, PyData.depth]
  have := depth_words l
  simp
  omega
theorem dp_words {K : PySem.W.Frag} {H : Hp} : ∀ {vs : List V} {ws : List (List Nat)}, LL H vs ws → DpAll K H vs (ws.map fun w => .list (encN w))
  | _, _, .nil => .nil
  | _, _, .cons ⟨a, h1, h2⟩ t => by
    subst h1
    exact .cons (.lst (SqL.of h2) (dp_encN _)) (dp_words t)
theorem eqv_words_nil (ws : List (List Nat)) : PyData.eqv (.list (ws.map fun w => PyData.list (encN w))) (.list []) = ws.isEmpty := by
  cases ws <;> simp [PyData.eqv, PyData.eqvAll]
theorem rv_neD {K : PySem.W.Frag} {H : Hp} {x y : V} {da db : PyData} (h : ∀ H1, Ex H H1 → Dp K H1 x da ∧ Dp K H1 y db) (sa : SeqAt.shaped da = true) (sb : SeqAt.shaped db = true) : RV (rNeD K) x y H (.bl (!PyData.eqv da db)) := fun H1 e Q q => ⟨da, db, (h H1 e).1, (h H1 e).2, sa, sb, q H1 (Ex.refl H1)⟩
section
variable {P : Program} {w : World} {K : PySem.W.Frag} {mg : Str → Option Value} {base : Heap} {d : Ads}
/-! ### parted -/
theorem sc_parted : FnScope ["row", "at", "found", "byte"] ["row", "at"] (defScope s_parted) := ⟨rfl, rfl, rfl, by decide +kernel, rfl, by decide +kernel, by decide +kernel⟩
def spParted (K : PySem.W.Frag) : Sp := fun vs H Q _ => ∃ (a : Addr) (row : List Nat) (b : Nat), vs = [.ref a, nv b] ∧ SqL K H a (nvs row) ∧ row.length ≤ 2000 ∧ RetR (PartsR H (parts b row)) H Q
theorem SpParted.r {H : Hp} {a : Addr} {row : List Nat} {b : Nat} (h : SqL K H a (nvs row)) (hl : row.length ≤ 2000) : SpR (spParted K) [.ref a, nv b] H (PartsR H (parts b row)) := fun H1 e Q q E =>
  ⟨a, row, b, rfl, ex_l e h, hl, fun v H2 e2 ⟨p, vs, h1, h2, h3, h4⟩ => q v H2 e2 ⟨p, vs, h1, fresh_back e h2, h3, h4.back e⟩⟩
theorem pstep_len (b : Nat) : ∀ (l : List Nat) (s : List (List Nat) × List Nat), (l.foldl (pstep b) s).1.length ≤ s.1.length + l.length ∧ (l.foldl (pstep b) s).2.length ≤ s.2.length + l.length
  | [], s => by simp
  | x :: l, s => by
    rw [List.foldl_cons]
    obtain ⟨h1, h2⟩ := pstep_len b l (pstep b s x)
    have h3 : (pstep b s x).1.length ≤ s.1.length + 1 := by
      unfold pstep
      split <;> simp
    have h4 : (pstep b s x).2.length ≤ s.2.length + 1 := by
      unfold pstep
      split <;> simp
    rw [List.length_cons]
    omega
theorem ok_parted (T : Txt K mg d) : Ok P w K mg base CX0 1 d.f_parted ["row", "at"] (spParted K) := by
  obtain ⟨fd, F, b⟩ := T.fn_parted
  refine ⟨fd, F.ok sc_parted (fun vs H Q E h => ?_) (fun cdv A outer s H vs Q E hr h => ?_), b⟩
  · obtain ⟨a, row, b, rfl, _⟩ := h
    rfl
  · obtain ⟨a, row, bt, rfl, hrow, hz, k⟩ := h
    refine' ⟨_, pss_cons ?s1 (pss_cons ?s2 (pss_one ?s3)), ?_⟩
    case s1 => exact ps_set (i := 2) sc_parted.nd rfl (Or.inl rfl) (pe_lst (pa_cons (pe_lst pa_nil) pa_nil))
    case s2 =>
      refine' ps_for PassesOwn.never rfl (pi_list (pv 0)) (pg_name (i := 3) sc_parted.nd rfl (Or.inl rfl)) (pss_one (ps_if (pt_cmpR op_eq (pv 3) (pv 1) (nomark _)) (pss_one ?b1) (pss_one ?b2)))
      case b1 => exact ps_expr (pe_bm PySem.F.plainAttrs_list PySem.F.slot_list_append PySem.F.type_list_append mt_append (pv 2) (pa_cons (pe_lst pa_nil) pa_nil))
      case b2 => exact ps_expr (pe_bm PySem.F.plainAttrs_list PySem.F.slot_list_append PySem.F.type_list_append mt_append (pe_ix ix_list (pv 2) (pe_un un_neg pe_int) (fun _ _ => rfl)) (pa_cons (pv 3) pa_nil))
    case s3 => exact ps_ret (pv 2)
    -- found = [[]]
    refine ⟨Nat.zero_le _, fun q0 hq0 => ⟨(by show 1 ≤ sizeLine; decide), fun p hp => ?_⟩⟩
    have hq0' : H q0 = none := hq0
    have hpq : p ≠ q0 := fun z => by
      rw [z, upd_same] at hp
      cases hp
    have hp' : H p = none := by
      rw [upd_ne hpq] at hp
      exact hp
    have x1 : Ex H (upd (upd H q0 (.lst [])) p (.lst [.ref q0])) := (Ex.new hq0).trans (Ex.new hp)
    refine q_forLn (xs := nvs row) (a := a) (ev_var rfl) (ex_l x1 hrow) (fun i σ' H' => ∃ (o : Option V) (vsI : List V) (last : Addr), σ' = [some (V.ref a), some (nv bt), some (.ref p), o] ∧ Ex H H' ∧ H last = none ∧ p ≠ last ∧ (∀ v ∈ vsI, v ≠ .ref p ∧ v ≠ .ref last) ∧ H' p = some (.lst (vsI ++ [.ref last])) ∧ LF H H' vsI ((row.take i).foldl (pstep bt) ([], [])).1 ∧ H' last = some (.lst (nvs ((row.take i).foldl (pstep bt) ([], [])).2)))
      (fun H1 e1 => ⟨none, [], q0, rfl, x1.trans e1, hq0', hpq, by simp, e1 _ _ upd_same, .nil, e1 _ _ (by rw [upd_ne (Ne.symm hpq)]; exact upd_same)⟩) (fun i σ' H' _ ⟨_, _, _, _, e, _⟩ => ex_l e hrow) ?_ ?_
    · rintro i x σ' H1 hx ⟨o, vsI, last, rfl, e1, hlast, hpl, hne, hp1, hI, hl1⟩
      obtain ⟨n, hn, rfl⟩ := nvs_at hx
      have hi : i < row.length := (List.getElem?_eq_some_iff.mp hn).1
      have st : (row.take (i + 1)).foldl (pstep bt) ([], []) = pstep bt ((row.take i).foldl (pstep bt) ([], [])) n := by
        rw [take_more hn, List.foldl_append]
        rfl
      have hlen := pstep_len bt (row.take i) ([], [])
      have hti : (row.take i).length ≤ 2000 := by
        rw [List.length_take]
        omega
      have hvl : vsI.length = ((row.take i).foldl (pstep bt) ([], [])).1.length := Paired.length hI
      generalize (row.take i).foldl (pstep bt) ([], []) = s0 at st hI hl1 hlen hvl
      simp only [List.length_nil, Nat.zero_add] at hlen
      refine s_if (et_test (ev_eqN (ev_var rfl) (ev_var rfl))) (fun c H2 e2 => ?_) (fun c H2 e2 => ?_)
      · have c' : n = bt := of_decide_eq_true c
        have est : pstep bt s0 n = (s0.1 ++ [s0.2], []) := if_pos c'
        refine s_appL (l := p) (xs := vsI ++ [.ref last]) (e2 _ _ hp1) (ev_var rfl) (el_lst ea_nil (by simp)) (by simp; omega) fun q H3 hq e3 hq3 => ?_
        have hqH : H q = none := fresh_back (e1.trans e2) hq
        have hqp : q ≠ p := fun z => by rw [z, e2 _ _ hp1] at hq; cases hq
        have hql : q ≠ last := fun z => by rw [z, e2 _ _ hl1] at hq; cases hq
        have hmem : ∀ v ∈ vsI ++ [.ref last], v ≠ .ref p ∧ v ≠ .ref q := by
          intro v hv
          rcases List.mem_append.mp hv with z | z
          · refine ⟨(hne v z).1, fun y => ?_⟩
            have key : ∀ {vs : List V} {ws : List (List Nat)}, LF H H1 vs ws → v ∈ vs → ∃ o, ∃ a, v = .ref a ∧ H1 a = some o := by
              intro vs ws hh
              induction hh with
              | nil => intro hm; cases hm
              | cons r _ ih =>
                intro hm
                rcases List.mem_cons.mp hm with e | e
                · obtain ⟨a', k1, _, k2⟩ := r
                  exact ⟨_, a', by rw [e]; exact k1, k2⟩
                · exact ih e
            obtain ⟨o', a', k1, k2⟩ := key hI z
            rw [k1] at y
            cases y
            rw [e2 _ _ k2] at hq
            cases hq
          · rw [List.mem_singleton.mp z]
            exact ⟨fun y => hpl (V.ref.inj y).symm, fun y => hql (V.ref.inj y).symm⟩
        refine ⟨some (nv n), vsI ++ [.ref last], q, rfl, fun bb oo hb => ?_, hqH, hqp.symm, hmem, upd_same, ?_, ?_⟩
        · rw [upd_ne (ne_of_none hb hp')]
          exact e3 _ _ (e2 _ _ (e1 _ _ hb))
        · rw [st, est]
          refine LF.upd (Paired.snoc (hI.mono (e2.trans e3)) ⟨last, rfl, hlast, e3 _ _ (e2 _ _ hl1)⟩) fun v hv => (hmem v hv).1
        · rw [st, est, upd_ne hqp]
          exact hq3
      · have c' : ¬ n = bt := of_decide_eq_false c
        have est : pstep bt s0 n = (s0.1, s0.2 ++ [n]) := if_neg c'
        refine s_app (l := last) (xs := nvs s0.2) (e2 _ _ hl1) (ev_op (ev_var rfl) (ev_un ev_c ru_neg) (rv_ixL (SqL.of (e2 _ _ hp1)) (atI_last _ _))) (ev_var rfl) (by rw [nvs_len]; omega) fun H3 e3 => ?_
        refine ⟨some (nv n), vsI, last, rfl, fun bb oo hb => ?_, hlast, hpl, hne, ?_, ?_, ?_⟩
        · rw [upd_ne (ne_of_none hb hlast)]
          exact e3 _ _ (e2 _ _ (e1 _ _ hb))
        · rw [upd_ne hpl]
          exact e3 _ _ (e2 _ _ hp1)
        · rw [st, est]
          exact LF.upd (hI.mono (e2.trans e3)) fun v hv => (hne v hv).2
        · rw [st, est, upd_same, nvs_snoc]
    · rintro σ' H1 ⟨o, vsI, last, rfl, e1, hlast, hpl, hne, hp1, hI, hl1⟩
      rw [nvs_len, List.take_length] at hI hl1
      refine s_ret (ev_var rfl) fun H2 e2 => k _ H2 (e1.trans e2) ⟨p, _, rfl, hp', e2 _ _ hp1, ?_⟩
      exact Paired.snoc (hI.mono e2) ⟨last, rfl, hlast, e2 _ _ hl1⟩
end
end G

namespace G
open PySem PySem.Spec PyProof.Rows L2 Evl
def kwS : Kw → Str
  | .holder => "holder"
  | .retorts => "retorts"
  | .leak => "leak"
  | .charge => "charge"
  | .use => "use"
theorem kwS_B (k : Kw) : (kwS k).cps.toList = kwB k := by cases k <;> decide +kernel
theorem kwS_ne {j k : Kw} (h : kwS j = kwS k) : j = k := by
  have e : kwB j = kwB k := by rw [← kwS_B, ← kwS_B, h]
  by_cases hj : j = k
  · exact hj
  · exact absurd e (kwB_ne hj)
theorem kwS_len (k : Kw) : (kwS k).length ≤ 10 := by cases k <;> decide +kernel
section
variable {K : PySem.W.Frag} {σ : L2.St} {H H' : Hp} {ta tb te : TE} {t : TT} {a : Addr}
/-- a told word against another -/
theorem ev_eqK {j k : Kw} (ha : Ev ta σ H (.str (kwS j))) (hb : Ev tb σ H (.str (kwS k))) : Ev (tOp rEq ta tb) σ H (.bl (decide (j = k))) := ev_cast (ev_op ha hb (rv_eq rfl)) (by
  congr 1
  apply decide_eq_decide.mpr
  constructor
  · intro h
    exact kwS_ne (V.str.inj h)
  · intro h
    rw [h])
theorem et_val {b : Bool} (h : Ev te σ H (.bl b)) : EvT (tB te) σ H b := et_B h
theorem map_all {α : Type} (l : List α) (p : α → Bool) : ((l.filter fun _ => true).map fun x => V.bl (p x)) = (l.map p).map V.bl ∧ (l.map p).all id = l.all p := by
  constructor
  · rw [filt_true, List.map_map]
    rfl
  · rw [List.all_map]
    rfl
/-- all([p(x) for x in word]) -/
theorem ev_allN {j : Nat} {l : List Nat} (p : Nat → Bool) (h : Ev ta σ H (.ref a)) (hx : SqL K H a (nvs l)) (hz : l.length ≤ 40000) (hw : ∀ x, wipe ((wipe σ [j]).set j (some x)) [j] = wipe σ [j]) (hv : ∀ n, n ∈ l → ∀ H1, Ex H H1 → Ev te ((wipe σ [j]).set j (some (nv n))) H1 (.bl (p n))) :
    Ev (tCB (rAll K) (tCons (tLc (iList K ta) (gName j) tYes te [j]) tNil)) σ H (.bl (l.all p)) := by
  rw [← (map_all l p).2]
  refine ev_all (el_cast (el_cL l nv (fun _ => true) (fun n => .bl (p n)) h hx rfl hz hw (fun n hn H1 e => et_yes) (fun n hn _ H1 e => hv n hn H1 e)) (map_all l p).1)
/-- signs -/
theorem el_cS {x : Str} {j : Nat} {vs : List Nat} (g : Nat → V) (h : Ev ta σ H (.str x)) (hz : x.cps.size ≤ 40000) (hw : ∀ v, wipe ((wipe σ vs).set j (some v)) vs = wipe σ vs) (hv : ∀ c H1, Ex H H1 → Ev te ((wipe σ vs).set j (some (.str ⟨#[c]⟩))) H1 (g c)) :
    EvL (tLc (iStr ta) (gName j) tYes te vs) σ H (x.cps.toList.map g) := fun H0 e Q q => h H0 e _ fun H1 e1 => ⟨x, rfl, fun Dl hD => by
  refine lc_it walk_str (fun i H' => H1 Dl = none ∧ Ex H1 H' ∧ H' Dl = some (.lst ((x.cps.toList.take i).map g))) ⟨hD, Ex.new hD, upd_same⟩ (fun _ _ _ _ => trivial) ?_ ?_
  · rintro i v H' H2 hi ⟨h1, e2, h2⟩ ⟨rfl, c, hc, rfl⟩
    refine ⟨hw _, ?_⟩
    dsimp only [tYes]
    rw [if_pos rfl]
    refine hv c H2 ((e.trans e1).trans e2) H2 (Ex.refl H2) _ fun H3 e3 => ⟨_, e3 _ _ h2, ?_, h1, fun b o hb => ?_, ?_⟩
    · rw [List.length_map, List.length_take]
      exact sz_lt (by omega)
    · rw [upd_ne (ne_of_none hb h1)]
      exact e3 _ _ (e2 _ _ hb)
    · have hc' : x.cps.toList[i]? = some c := by rw [Array.getElem?_toList]; exact hc
      rw [upd_same, take_more hc', List.map_append]
      rfl
  · rintro H' ⟨h1, e2, h2⟩
    have e0 : x.cps.toList.take x.cps.size = x.cps.toList := by
      rw [← Array.length_toList, List.take_length]
    rw [e0] at h2
    exact q Dl H' (fresh_back e1 h1) (e1.trans e2) h2⟩
end
section
variable {P : Program} {w : World} {K : PySem.W.Frag} {mg : Str → Option Value} {base : Heap} {d : Ads}
/-! ### is_within -/
theorem sc_is_within : FnScope ["number", "least", "most"] ["number", "least", "most"] (defScope s_is_within) := ⟨rfl, rfl, rfl, by decide +kernel, rfl, by decide +kernel, by decide +kernel⟩
def spWithin : Sp := fun vs H Q _ => ∃ (n lo hi : Nat), vs = [nv n, nv lo, nv hi] ∧ RetV (.bl (inB n lo hi)) H Q
theorem SpWithin.v {H : Hp} {n lo hi : Nat} : SpV spWithin [nv n, nv lo, nv hi] H (.bl (inB n lo hi)) := fun H1 e Q q E => ⟨n, lo, hi, rfl, q⟩
theorem ok_is_within (T : Txt K mg d) : Ok P w K mg base CX0 1 d.f_is_within ["number", "least", "most"] spWithin := by
  obtain ⟨fd, F, b⟩ := T.fn_is_within
  refine ⟨fd, F.ok sc_is_within (fun vs H Q E h => ?_) (fun cdv A outer s H vs Q E hr h => ?_), b⟩
  · obtain ⟨n, lo, hi, rfl, _⟩ := h
    rfl
  · obtain ⟨n, lo, hi, rfl, k⟩ := h
    refine' ⟨_, pss_one ?s1, ?_⟩
    case s1 => exact ps_ret (pe_and (pe_cmpR op_le (pv 1) (pv 0) (nomark _)) (pe_one (pe_cmpR op_le (pv 0) (pv 2) (nomark _))))
    exact s_ret (ev_andV (ev_leN (ev_var rfl) (ev_var rfl)) fun _ => ev_leN (ev_var rfl) (ev_var rfl)) k
/-! ### is_name -/
theorem sc_is_name : FnScope ["word", "byte"] ["word"] (defScope s_is_name) := ⟨rfl, rfl, rfl, by decide +kernel, rfl, by decide +kernel, by decide +kernel⟩
def spIsName : Sp := fun vs H Q _ => ∃ (a : Addr) (l : List Nat), vs = [.ref a] ∧ H a = some (.lst (nvs l)) ∧ l.length ≤ 2000 ∧ RetV (.bl (isName l)) H Q
theorem SpIsName.v {H : Hp} {a : Addr} {l : List Nat} (h : H a = some (.lst (nvs l))) (hl : l.length ≤ 2000) : SpV spIsName [.ref a] H (.bl (isName l)) := fun H1 e Q q E => ⟨a, l, rfl, e _ _ h, hl, q⟩
theorem ok_is_name (T : Txt K mg d) : Ok P w K mg base CX0 1 d.f_is_name ["word"] spIsName := by
  obtain ⟨fd, F, b⟩ := T.fn_is_name
  refine ⟨fd, F.ok sc_is_name (fun vs H Q E h => ?_) (fun cdv A outer s H vs Q E hr h => ?_), b⟩
  · obtain ⟨a, l, rfl, _⟩ := h
    rfl
  · obtain ⟨a, l, rfl, hl, hz, k⟩ := h
    refine' ⟨_, pss_one (ps_ret (pe_and ?x1 (pe_one ?x2))), ?_⟩
    case x1 => exact pe_cmpR op_le (pe_callB call_len_seq (by rfl) T.b_len PySem.boot_len (pa_cons (pv 0) pa_nil)) (pe_gi T.k_MOST_NAME rfl) (nomark _)
    case x2 => exact pe_callB (cr_all rfl) (by rfl) T.b_all boot_all (pa_cons (pe_lc (own := [("byte", 1)]) (g := gName 1) rfl sc_is_name.nd (pi_list (pv 0)) (blkOk_by (own := [("byte", 1)]) (N := ["word", "byte"]) (sc := defScope s_is_name) (by decide +kernel))
      (fun _ _ _ _ _ => pg_name (i := 1) sc_is_name.nd rfl (Or.inl rfl)) (fun _ _ _ _ _ => pts_nil) (fun _ _ _ _ _ => pe_and (pe_cmpR op_le pe_int (pv 1) (nomark _)) (pe_one (pe_cmpR op_le (pv 1) pe_int (nomark _))))) pa_nil)
    refine s_ret (ev_andV (ev_leN (j := 12) (ev_cast (ev_lenS (ev_var rfl) (.inl (SqL.of hl))) (by rw [nvs_len]; rfl)) ev_c) fun _ => ev_allN Mu14.small (ev_var rfl) (SqL.of hl) (by omega) (fun x => rfl) (fun n hn H1 e => ev_andV (ev_leN (i := 97) ev_c (ev_var rfl)) fun _ => ev_leN (j := 122) (ev_var rfl) ev_c)) k
/-! ### is_number -/
theorem sc_is_number : FnScope ["word", "byte"] ["word"] (defScope s_is_number) := ⟨rfl, rfl, rfl, by decide +kernel, rfl, by decide +kernel, by decide +kernel⟩
def spIsNumber : Sp := fun vs H Q _ => ∃ (a : Addr) (l : List Nat), vs = [.ref a] ∧ H a = some (.lst (nvs l)) ∧ l.length ≤ 2000 ∧ l ≠ [] ∧ RetV (.bl (isNumber l)) H Q
theorem SpIsNumber.v {H : Hp} {a : Addr} {l : List Nat} (h : H a = some (.lst (nvs l))) (hl : l.length ≤ 2000) (h0 : l ≠ []) : SpV spIsNumber [.ref a] H (.bl (isNumber l)) := fun H1 e Q q E => ⟨a, l, rfl, e _ _ h, hl, h0, q⟩
theorem ok_is_number (T : Txt K mg d) : Ok P w K mg base CX0 1 d.f_is_number ["word"] spIsNumber := by
  obtain ⟨fd, F, b⟩ := T.fn_is_number
  refine ⟨fd, F.ok sc_is_number (fun vs H Q E h => ?_) (fun cdv A outer s H vs Q E hr h => ?_), b⟩
  · obtain ⟨a, l, rfl, _⟩ := h
    rfl
  · obtain ⟨a, l, rfl, hl, hz, h0, k⟩ := h
    refine' ⟨_, pss_cons (ps_if (PW.pt (pw_or ?x1 (pw_or1 (pt_not (pt_val ?x2))))) (pss_one (ps_ret pe_bl)) pss_nil) (pss_one (ps_ret (pe_or ?x3 (pe_one ?x4)))), ?_⟩
    case x1 => exact pt_cmpR op_gt (pe_callB call_len_seq (by rfl) T.b_len PySem.boot_len (pa_cons (pv 0) pa_nil)) (pe_gi T.k_MOST_FIGURES rfl) (nomark _)
    case x2 => exact pe_callB (cr_all rfl) (by rfl) T.b_all boot_all (pa_cons (pe_lc (own := [("byte", 1)]) (g := gName 1) rfl sc_is_number.nd (pi_list (pv 0)) (blkOk_by (own := [("byte", 1)]) (N := ["word", "byte"]) (sc := defScope s_is_number) (by decide +kernel))
      (fun _ _ _ _ _ => pg_name (i := 1) sc_is_number.nd rfl (Or.inl rfl)) (fun _ _ _ _ _ => pts_nil) (fun _ _ _ _ _ => pe_and (pe_cmpR op_le (pe_gi T.k_NOUGHT rfl) (pv 1) (nomark _)) (pe_one (pe_cmpR op_le (pv 1) pe_int (nomark _))))) pa_nil)
    case x3 => exact pe_cmpR op_eq (pe_callB call_len_seq (by rfl) T.b_len PySem.boot_len (pa_cons (pv 0) pa_nil)) pe_int (nomark _)
    case x4 => exact pe_cmpR op_ne (pe_ix ix_list (pv 0) pe_int (fun _ _ => rfl)) (pe_gi T.k_NOUGHT rfl) (nomark _)
    have flen : ∀ H1, Ex H H1 → Ev (tCB (rLenS K) (tCons (tVar 0) tNil)) [some (V.ref a), none] H1 (nv l.length) := fun H1 e => ev_cast (ev_lenS (ev_var rfl) (.inl (SqL.of (e _ _ hl)))) (by rw [nvs_len]; rfl)
    have hnum : isNumber l = if (decide (4 < l.length) || !(l.all Mu14.digit)) = true then false else decide (l.length = 1) || !decide (l.headD 0 = 48) := by
      unfold isNumber
      congr 2
      by_cases hh : l.headD 0 = 48 <;> simp [hh]
    refine q_when (et_or (et_test (ev_gtN (j := 4) (flen H (Ex.refl H)) ev_c)) fun _ => et_not (et_B (ev_allN Mu14.digit (ev_var rfl) (SqL.of hl) (by omega) (fun x => rfl) (fun n hn H1 e => ev_andV (ev_leN (i := 48) ev_c (ev_var rfl)) fun _ => ev_leN (j := 57) (ev_var rfl) ev_c)))) (fun c H1 e1 => ?_) (fun c H1 e1 => ?_)
    · rw [hnum, if_pos c] at k
      exact s_ret ev_c fun H2 e2 => k H2 (e1.trans e2)
    · rw [hnum, if_neg (by rw [c]; exact Bool.false_ne_true)] at k
      have hget : l[0]? = some (l.headD 0) := by
        cases l with
        | nil => exact absurd rfl h0
        | cons x r => rfl
      exact s_ret (ev_orV (ev_eqN (j := 1) (flen H1 e1) ev_c) fun _ => ev_neN (j := 48) (ev_op (ev_var rfl) ev_c (rv_ixL (SqL.of (e1 _ _ hl)) (atN (j := 0) rfl hget))) ev_c) fun H2 e2 => k H2 (e1.trans e2)
/-! ### number_of -/
theorem sc_number_of : FnScope ["word", "found", "byte"] ["word"] (defScope s_number_of) := ⟨rfl, rfl, rfl, by decide +kernel, rfl, by decide +kernel, by decide +kernel⟩
def spNumberOf : Sp := fun vs H Q _ => ∃ (a : Addr) (l : List Nat), vs = [.ref a] ∧ H a = some (.lst (nvs l)) ∧ l.all Mu14.digit = true ∧ RetV (nv (Mu14.numberOf l)) H Q
theorem SpNumberOf.v {H : Hp} {a : Addr} {l : List Nat} (h : H a = some (.lst (nvs l))) (hl : l.all Mu14.digit = true) : SpV spNumberOf [.ref a] H (nv (Mu14.numberOf l)) := fun H1 e Q q E => ⟨a, l, rfl, e _ _ h, hl, q⟩
theorem ok_number_of (T : Txt K mg d) : Ok P w K mg base CX0 1 d.f_number_of ["word"] spNumberOf := by
  obtain ⟨fd, F, b⟩ := T.fn_number_of
  refine ⟨fd, F.ok sc_number_of (fun vs H Q E h => ?_) (fun cdv A outer s H vs Q E hr h => ?_), b⟩
  · obtain ⟨a, l, rfl, _⟩ := h
    rfl
  · obtain ⟨a, l, rfl, hl, hd, k⟩ := h
    refine' ⟨_, pss_cons ?s1 (pss_cons ?s2 (pss_one ?s3)), ?_⟩
    case s1 => exact ps_set (i := 1) sc_number_of.nd rfl (Or.inl rfl) pe_int
    case s2 =>
      refine' ps_for PassesOwn.never rfl (pi_list (pv 0)) (pg_name (i := 2) sc_number_of.nd rfl (Or.inl rfl)) (pss_one ?b1)
      case b1 => exact ps_set (i := 1) sc_number_of.nd rfl (Or.inl rfl) (pe_op op_sub (pe_op op_add (pe_op op_mul pe_int (pv 1)) (pv 2)) (pe_gi T.k_NOUGHT rfl))
    case s3 => exact ps_ret (pv 1)
    refine q_asg (v := nv 0) ev_c fun H1 e1 => ?_
    refine q_forLn (xs := nvs l) (a := a) (ev_var rfl) (SqL.of (e1 _ _ hl)) (fun i σ' H' => ∃ o : Option V, σ' = [some (V.ref a), some (nv (Mu14.numberOf (l.take i))), o] ∧ Ex H H') (fun H2 e2 => ⟨none, rfl, e1.trans e2⟩) (fun i σ' H' _ ⟨_, _, e⟩ => SqL.of (e _ _ hl)) ?_ ?_
    · rintro i x σ' H2 hx ⟨o, rfl, e2⟩
      obtain ⟨n, hn, rfl⟩ := nvs_at hx
      have hdn : Mu14.digit n = true := List.all_eq_true.mp hd n (List.mem_of_getElem? hn)
      have h48 : 48 ≤ n := by
        unfold Mu14.digit at hdn
        simp at hdn
        exact hdn.1
      have st : Mu14.numberOf (l.take (i + 1)) = 10 * Mu14.numberOf (l.take i) + (n - 48) := by
        unfold Mu14.numberOf
        rw [take_more hn, List.foldl_append]
        rfl
      generalize Mu14.numberOf (l.take i) = f at st
      refine s_asg (v := nv (10 * f + (n - 48))) (ev_cast (ev_op (ev_op (ev_op ev_c (ev_var rfl) (rv_I (.inl (by decide)))) (ev_var rfl) rv_I0) ev_c rv_I0) ?_) fun H3 e3 => ⟨some (nv n), by rw [st]; rfl, e2.trans e3⟩
      show V.int _ = V.int _
      congr 1
      omega
    · rintro σ' H2 ⟨o, rfl, e2⟩
      rw [nvs_len, List.take_length]
      exact s_ret (ev_var rfl) fun H3 e3 => k H3 (e2.trans e3)
/-! ### is_of, told_word -/
theorem sc_is_of : FnScope ["name", "word", "sign"] ["name", "word"] (defScope s_is_of) := ⟨rfl, rfl, rfl, by decide +kernel, rfl, by decide +kernel, by decide +kernel⟩
def spIsOf : Sp := fun vs H Q _ => ∃ (j : Kw) (a : Addr) (l : List Nat), vs = [.str (kwS j), .ref a] ∧ H a = some (.lst (nvs l)) ∧ RetV (.bl (decide (l = kwB j))) H Q
theorem SpIsOf.v {H : Hp} {j : Kw} {a : Addr} {l : List Nat} (h : H a = some (.lst (nvs l))) : SpV spIsOf [.str (kwS j), .ref a] H (.bl (decide (l = kwB j))) := fun H1 e Q q E => ⟨j, a, l, rfl, e _ _ h, q⟩
theorem ok_is_of (T : Txt K mg d) : Ok P w K mg base CX0 1 d.f_is_of ["name", "word"] spIsOf := by
  obtain ⟨fd, F, b⟩ := T.fn_is_of
  refine ⟨fd, F.ok sc_is_of (fun vs H Q E h => ?_) (fun cdv A outer s H vs Q E hr h => ?_), b⟩
  · obtain ⟨j, a, l, rfl, _⟩ := h
    rfl
  · obtain ⟨j, a, l, rfl, hl, k⟩ := h
    have hu := hr.units
    refine' ⟨_, pss_one (ps_ret (pe_cmpR (op_eqD hu) (pv 1) ?x1 (nomark _))), ?_⟩
    case x1 =>
      refine' pe_lc (own := [("sign", 2)]) (g := gName 2) (te := tCB (fun xs H Q => ∃ x : Str, xs = [.str x] ∧ x.length = 1 ∧ Q (.int (x.cps.getD 0 0 : Nat)) H) (tCons (tVar 2) tNil)) rfl sc_is_of.nd (pi_str (pv 0)) (blkOk_by (own := [("sign", 2)]) (N := ["name", "word", "sign"]) (sc := defScope s_is_of) (by decide +kernel))
        (fun _ _ _ _ _ => pg_name (i := 2) sc_is_of.nd rfl (Or.inl rfl)) (fun _ _ _ _ _ => pts_nil) (fun _ _ _ _ _ => ?y1)
      case y1 => exact pe_callB call_ord (by rfl) T.b_ord (by decide +kernel) (pa_cons (pv 2) pa_nil)
    have hs : (kwS j).cps.size ≤ 40000 := by
      have := kwS_len j
      have e : (kwS j).length = (kwS j).cps.size := rfl
      omega
    refine s_ret (ev_opL (ev_var rfl) (el_cast (ys := nvs (kwB j)) (el_cS nv (ev_var rfl) hs (fun v => rfl) (fun c H1 e Q q => ?_)) ?_) fun p H1 hp e1 => rv_eqD (da := .list (encN l)) (db := .list (encN (kwB j))) (fun H2 e2 => ⟨.lst (SqL.of (e2 _ _ (e1 _ _ hl))) (dp_encN _), .lst (SqL.of (e2 _ _ hp)) (dp_encN _)⟩) (shaped_encN _) (shaped_encN _)) fun H1 e1 => ?_
    · intro H2 e2
      exact ⟨_, rfl, _, rfl, rfl, e2 _ (Ex.refl _)⟩
    · rw [kwS_B]
      rfl
    · rw [PyData.eqv, eqv_encN]
      exact k H1 e1
theorem sc_told_word : FnScope ["word", "name"] ["word"] (defScope s_told_word) := ⟨rfl, rfl, rfl, by decide +kernel, rfl, by decide +kernel, by decide +kernel⟩
def kwV : Option Kw → V
  | none => .non
  | some k => .str (kwS k)
def spToldWord : Sp := fun vs H Q _ => ∃ (a : Addr) (l : List Nat), vs = [.ref a] ∧ H a = some (.lst (nvs l)) ∧ RetV (kwV (told l)) H Q
theorem SpToldWord.v {H : Hp} {a : Addr} {l : List Nat} (h : H a = some (.lst (nvs l))) : SpV spToldWord [.ref a] H (kwV (told l)) := fun H1 e Q q E => ⟨a, l, rfl, e _ _ h, q⟩
theorem words_are : ([V.str "holder", .str "retorts", .str "leak", .str "charge", .str "use"] : List V) = kws.map fun k => V.str (kwS k) := rfl
theorem ok_told_word (T : Txt K mg d) : Ok P w K mg base CX0 2 d.f_told_word ["word"] spToldWord := by
  obtain ⟨fd, F, b⟩ := T.fn_told_word
  obtain ⟨fdI, GI, bI⟩ := ok_is_of (P := P) (w := w) (base := base) T
  refine ⟨fd, F.ok sc_told_word (fun vs H Q E h => ?_) (fun cdv A outer s H vs Q E hr h => ?_), b⟩
  · obtain ⟨a, l, rfl, _⟩ := h
    rfl
  · obtain ⟨a, l, rfl, hl, k⟩ := h
    have hr1 : Room 1 _ := hr.mono (by decide)
    refine' ⟨_, pss_cons ?s1 (pss_one ?s2), ?_⟩
    case s1 =>
      refine' ps_for PassesOwn.never rfl (pi_tup (pe_glob (v := .ref d.wWORDS) rfl T.g_WORDS rfl)) (pg_name (i := 1) sc_told_word.nd rfl (Or.inl rfl)) (pss_one (ps_if (pt_val ?x1) (pss_one (ps_ret (pv 1))) pss_nil))
      case x1 => exact pe_call GI hr1 rfl T.g_is_of T.k_is_of bI .nil pass0 (pa_cons (pv 1) (pa_cons (pv 0) pa_nil))
    case s2 => exact ps_ret pe_non
    refine q_forT (a := d.wWORDS) (xs := kws.map fun k => V.str (kwS k)) ev_c (by rw [← words_are]; exact T.t_WORDS H) (fun i σ' H' => ∃ o : Option V, σ' = [some (V.ref a), o] ∧ Ex H H' ∧ ∀ j ∈ kws.take i, l ≠ kwB j) (fun H1 e1 => ⟨none, rfl, e1, by simp⟩) (fun i σ' H' _ _ => by rw [← words_are]; exact T.t_WORDS H') ?_ ?_
    · rintro i x σ' H1 hx ⟨o, rfl, e1, hn⟩
      rw [List.getElem?_map] at hx
      cases hj : kws[i]? with
      | none => rw [hj] at hx; cases hx
      | some j =>
        rw [hj] at hx
        have hx' : V.str (kwS j) = x := Option.some.inj hx
        subst hx'
        refine s_when (et_B (ev_call (vs := [.str (kwS j), .ref a]) (dvs := []) (ea_cons (ev_var rfl) (ea_cons (ev_var rfl) ea_nil)) (SpIsOf.v (e1 _ _ hl)))) (fun c H2 e2 => ?_) (fun c H2 e2 => ?_)
        · have c' : l = kwB j := of_decide_eq_true c
          have ht : told l = some j := by
            unfold told
            have hfind : kws.find? (fun k => decide (l = kwB k)) = some j := by
              rw [List.find?_eq_some_iff_getElem]
              refine ⟨decide_eq_true c', i, (List.getElem?_eq_some_iff.mp hj).1, (List.getElem?_eq_some_iff.mp hj).2, fun m hm => ?_⟩
              have hml : m < kws.length := Nat.lt_trans hm (List.getElem?_eq_some_iff.mp hj).1
              have := hn kws[m] (List.mem_take_iff_getElem.mpr ⟨m, by omega, rfl⟩)
              simp [this]
            exact hfind
          rw [ht] at k
          exact s_ret (ev_var rfl) fun H3 e3 => k H3 ((e1.trans e2).trans e3)
        · have c' : ¬ l = kwB j := of_decide_eq_false c
          refine ⟨_, rfl, e1.trans e2, fun j' hj' => ?_⟩
          rw [take_more hj] at hj'
          rcases List.mem_append.mp hj' with z | z
          · exact hn j' z
          · rw [List.mem_singleton.mp z]
            exact c'
    · rintro σ' H1 ⟨o, rfl, e1, hn⟩
      have ht : told l = none := by
        unfold told
        rw [List.find?_eq_none]
        intro j hj
        have := hn j (by rw [List.length_map, List.take_length]; exact hj)
        simp [this]
      rw [ht] at k
      exact s_ret ev_c fun H2 e2 => k H2 (e1.trans e2)
end
end G

namespace G
open PySem PySem.Spec PyProof.Rows L2 Evl
/-! ### words: comprehensions over them, slices -/
def WsOk (ws : List (List Nat)) : Prop := ws.length ≤ 2001 ∧ ∀ w ∈ ws, w ≠ [] ∧ w.length ≤ 2000
theorem WsOk.drop {ws : List (List Nat)} (h : WsOk ws) (k : Nat) : WsOk (ws.drop k) := ⟨by have := h.1; rw [List.length_drop]; omega, fun w hw => h.2 w (List.mem_of_mem_drop hw)⟩
theorem LL.drop {H : Hp} : ∀ {vs : List V} {ws : List (List Nat)} (k : Nat), LL H vs ws → LL H (vs.drop k) (ws.drop k)
  | _, _, 0, h => h
  | _, _, _ + 1, .nil => .nil
  | _, _, k + 1, .cons _ t => LL.drop k t
theorem LL.at {H : Hp} {vs : List V} {ws : List (List Nat)} (h : LL H vs ws) {i : Nat} {w : List Nat} (hw : ws[i]? = some w) : ∃ a, vs[i]? = some (.ref a) ∧ H a = some (.lst (nvs w)) := by
  have hl : vs.length = ws.length := Paired.length h
  have hi : i < vs.length := by
    have := (List.getElem?_eq_some_iff.mp hw).1
    omega
  obtain ⟨y, hy, a, h1, h2⟩ := L2.paired_get h (List.getElem?_eq_getElem hi)
  rw [hw] at hy
  cases hy
  exact ⟨a, by rw [← h1]; exact List.getElem?_eq_getElem hi, h2⟩
theorem cut_from (xs : List V) (k : Nat) : cutV xs (some (k : Int)) none = xs.drop k := by
  unfold cutV
  rw [HT.sIx_none, HT.sIx_nat]
  by_cases h : k ≤ xs.length
  · rw [Nat.min_eq_left h, List.take_of_length_le (by rw [List.length_drop]; omega)]
  · rw [Nat.min_eq_right (by omega), List.drop_eq_nil_of_le (Nat.le_refl _), List.drop_eq_nil_of_le (by omega)]
    simp
section
variable {K : PySem.W.Frag} {σ : L2.St} {H H' : Hp} {ta tb te : TE} {t : TT} {a : Addr} {xs : List V} {ws : List (List Nat)}
theorem el_from {k : Nat} (h : Ev te σ H (.ref a)) (hk : Ev tb σ H (nv k)) (hs : SqL K H a xs) : EvL (tSl (rSlL K) te (tPart tb) tNoPart) σ H (xs.drop k) := el_cast (el_sl h (eo_some hk) eo_none hs) (cut_from xs k)
theorem zip_len {vs : List V} (h : LL H vs ws) (hz : ws.length ≤ 2001) : (vs.zip ws).length ≤ 40000 := by
  rw [List.length_zip]
  omega
theorem zip_map {β : Type} {vs : List V} (h : LL H vs ws) (f : List Nat → β) : (((vs.zip ws).filter fun _ => true).map fun q => f q.2) = ws.map f := by
  have e := (paired_zip h).2.1
  rw [filt_true]
  conv => rhs; rw [e]
  rw [List.map_map]
  rfl
/-- [g(word) for word in words] -/
theorem el_words {j : Nat} (g : List Nat → V) (h : Ev ta σ H (.ref a)) (hx : SqL K H a xs) (hl : LL H xs ws) (hz : ws.length ≤ 2001) (hw : ∀ x, wipe ((wipe σ [j]).set j (some x)) [j] = wipe σ [j])
    (hv : ∀ w, w ∈ ws → ∀ b H1, Ex H H1 → H1 b = some (.lst (nvs w)) → Ev te ((wipe σ [j]).set j (some (.ref b))) H1 (g w)) : EvL (tLc (iList K ta) (gName j) tYes te [j]) σ H (ws.map g) := by
  obtain ⟨z1, z2, z3⟩ := paired_zip hl
  refine el_cast (el_cL (xs.zip ws) (·.1) (fun _ => true) (fun q => g q.2) h hx z1 (zip_len hl hz) hw (fun n hn H1 e => et_yes) (fun q hq _ H1 e => ?_)) (zip_map hl g)
  obtain ⟨b, h1, h2⟩ := z3 q hq
  have hm : q.2 ∈ ws := by
    rw [z2]
    exact List.mem_map.mpr ⟨q, hq, rfl⟩
  rw [h1]
  exact hv q.2 hm b H1 e (e _ _ h2)
theorem el_wordsN {j : Nat} (g : List Nat → V) (h : EvL ta σ H xs) (hl : LL H xs ws) (hz : ws.length ≤ 2001) (hw : ∀ x, wipe ((wipe σ [j]).set j (some x)) [j] = wipe σ [j])
    (hv : ∀ w, w ∈ ws → ∀ b H1, Ex H H1 → H1 b = some (.lst (nvs w)) → Ev te ((wipe σ [j]).set j (some (.ref b))) H1 (g w)) : EvL (tLc (iList K ta) (gName j) tYes te [j]) σ H (ws.map g) := by
  obtain ⟨z1, z2, z3⟩ := paired_zip hl
  refine el_cast (el_cNL (xs.zip ws) (·.1) (fun _ => true) (fun q => g q.2) h z1 (zip_len hl hz) hw (fun n hn H1 e => et_yes) (fun q hq _ H1 e => ?_)) (zip_map hl g)
  obtain ⟨b, h1, h2⟩ := z3 q hq
  have hm : q.2 ∈ ws := by
    rw [z2]
    exact List.mem_map.mpr ⟨q, hq, rfl⟩
  rw [h1]
  exact hv q.2 hm b H1 e (e _ _ h2)
theorem all_words (p : List Nat → Bool) : (ws.map p).all id = ws.all p := by
  rw [List.all_map]
  rfl
theorem ev_allW {j : Nat} (p : List Nat → Bool) (h : EvL te σ H (ws.map fun w => V.bl (p w))) : Ev (tCB (rAll K) (tCons te tNil)) σ H (.bl (ws.all p)) := by
  rw [← all_words]
  exact ev_all (el_cast h (by rw [List.map_map]; rfl))
theorem ev_ix0 {k : Nat} {w : List Nat} {b : Addr} (h : Ev ta σ H (.ref a)) (hx : SqL K H a xs) (hb : Ev tb σ H (nv k)) (hw : xs[k]? = some (.ref b)) : Ev (tOp (rIxL K) ta tb) σ H (.ref b) := ev_op h hb (rv_ixL hx (atI_nat hw))
/-- int(bool) -/
theorem ev_intB {b : Bool} (h : Ev te σ H (.bl b)) : Ev (tCB (fun xs H Q => (∃ i, xs = [.int i] ∧ Q (.int i) H) ∨ ∃ k, xs = [.bl k] ∧ Q (.int (if k then 1 else 0)) H) (tCons te tNil)) σ H (nv (if b then 1 else 0)) := fun H1 e Q q =>
  h H1 e _ fun H2 e2 => .inr ⟨b, rfl, by
    have k : V.int (if b = true then 1 else 0) = nv (if b = true then 1 else 0) := by cases b <;> rfl
    rw [k]
    exact q H2 e2⟩
end
section
variable {P : Program} {w : World} {K : PySem.W.Frag} {mg : Str → Option Value} {base : Heap} {d : Ads}
/-! ### has_form -/
theorem sc_has_form : FnScope ["name", "words", "word"] ["name", "words"] (defScope s_has_form) := ⟨rfl, rfl, rfl, by decide +kernel, rfl, by decide +kernel, by decide +kernel⟩
def spHasForm : Sp := fun vs H Q _ => ∃ (j : Kw) (a : Addr) (xs : List V) (ws : List (List Nat)), vs = [.str (kwS j), .ref a] ∧ H a = some (.lst xs) ∧ LL H xs ws ∧ WsOk ws ∧ RetV (.bl (hasForm j ws)) H Q
theorem SpHasForm.v {H : Hp} {j : Kw} {a : Addr} {xs : List V} {ws : List (List Nat)} (h : H a = some (.lst xs)) (hl : LL H xs ws) (ho : WsOk ws) : SpV spHasForm [.str (kwS j), .ref a] H (.bl (hasForm j ws)) := fun H1 e Q q E => ⟨j, a, xs, ws, rfl, e _ _ h, hl.mono e, ho, q⟩
theorem ok_has_form (T : Txt K mg d) : Ok P w K mg base CX0 2 d.f_has_form ["name", "words"] spHasForm := by
  obtain ⟨fd, F, b⟩ := T.fn_has_form
  obtain ⟨fdN, GN, bN⟩ := ok_is_name (P := P) (w := w) (base := base) T
  obtain ⟨fdU, GU, bU⟩ := ok_is_number (P := P) (w := w) (base := base) T
  refine ⟨fd, F.ok sc_has_form (fun vs H Q E h => ?_) (fun cdv A outer s H vs Q E hr h => ?_), b⟩
  · obtain ⟨j, a, xs, ws, rfl, _⟩ := h
    rfl
  · obtain ⟨j, a, xs, ws, rfl, hx, hl, ho, k⟩ := h
    have hr1 : Room 1 _ := hr.mono (by decide)
    have hu := hr.units
    refine' ⟨_, pss_cons (ps_if (pt_cmpR op_eq (pv 0) (pe_gs T.k_USE rfl) (nomark _)) (pss_one (ps_ret (pe_and ?a1 (pe_and ?a2 (pe_one ?a3))))) pss_nil)
      (pss_cons (ps_if (pt_not (pt_val ?b1)) (pss_one (ps_ret pe_bl)) pss_nil)
      (pss_cons (ps_if (pt_cmpR op_eq (pv 0) (pe_gs T.k_CHARGE rfl) (nomark _)) (pss_one (ps_ret ?c1)) pss_nil)
      (pss_one (ps_ret ?d1)))), ?_⟩
    case a1 => exact pe_cmpR op_eq (pe_callB call_len_seq (by rfl) T.b_len PySem.boot_len (pa_cons (pv 1) pa_nil)) pe_int (nomark _)
    case a2 => exact pe_call GN hr1 rfl T.g_is_name T.k_is_name bN .nil pass0 (pa_cons (pe_ix ix_list (pv 1) pe_int (fun _ _ => rfl)) pa_nil)
    case a3 =>
      refine' pe_callB (cr_all rfl) (by rfl) T.b_all boot_all (pa_cons (pe_lc (own := [("word", 2)]) (g := gName 2) rfl sc_has_form.nd (pi_list (pe_slice sl_list (pv 1) (po_some pe_int) po_none)) (blkOk_by (own := [("word", 2)]) (N := ["name", "words", "word"]) (sc := defScope s_has_form) (by decide +kernel))
        (fun _ _ _ _ _ => pg_name (i := 2) sc_has_form.nd rfl (Or.inl rfl)) (fun _ _ _ _ _ => pts_nil) (fun _ _ _ _ _ => pe_call GU hr1 rfl T.g_is_number T.k_is_number bU .nil pass0 (by exact (pa_cons (pv 2) pa_nil)))) pa_nil)
    case b1 =>
      refine' pe_callB (cr_all rfl) (by rfl) T.b_all boot_all (pa_cons (pe_lc (own := [("word", 2)]) (g := gName 2) rfl sc_has_form.nd (pi_list (pv 1)) (blkOk_by (own := [("word", 2)]) (N := ["name", "words", "word"]) (sc := defScope s_has_form) (by decide +kernel))
        (fun _ _ _ _ _ => pg_name (i := 2) sc_has_form.nd rfl (Or.inl rfl)) (fun _ _ _ _ _ => pts_nil) (fun _ _ _ _ _ => pe_call GU hr1 rfl T.g_is_number T.k_is_number bU .nil pass0 (by exact (pa_cons (pv 2) pa_nil)))) pa_nil)
    case c1 => exact pe_cmpR (op_neD hu) (pv 1) (pe_lst pa_nil) (nomark _)
    case d1 => exact pe_cmpR op_eq (pe_callB call_len_seq (by rfl) T.b_len PySem.boot_len (pa_cons (pv 1) pa_nil)) (pe_op op_add pe_int (pe_callTy call_int1 (by rfl) T.b_int (by decide +kernel) (pa_cons (pe_cmpR op_eq (pv 0) (pe_gs T.k_HOLDER rfl) (nomark _)) pa_nil))) (nomark _)
    have hlen : xs.length = ws.length := Paired.length hl
    have flen : ∀ H1, Ex H H1 → Ev (tCB (rLenS K) (tCons (tVar 1) tNil)) [some (V.str (kwS j)), some (.ref a), none] H1 (nv ws.length) := fun H1 e => ev_cast (ev_lenS (ev_var rfl) (.inl (SqL.of (e _ _ hx)))) (by rw [hlen]; rfl)
    have fnum : ∀ {σ : L2.St} {i : Nat} (w : List Nat), w ∈ ws → ∀ b H1, Ex H H1 → H1 b = some (.lst (nvs w)) → σ[i]? = some (some (V.ref b)) → Ev (tCall spIsNumber [] E0 (tCons (tVar i) tNil)) σ H1 (.bl (isNumber w)) := fun w hw b H1 e hb hs => ev_call (vs := [.ref b]) (dvs := []) (ea_cons (ev_var hs) ea_nil) (SpIsNumber.v hb (ho.2 w hw).2 (ho.2 w hw).1)
    refine q_when (et_test (ev_eqK (k := .use) (ev_var rfl) ev_c)) (fun c H1 e1 => ?_) (fun c H1 e1 => ?_)
    · have c' : j = .use := of_decide_eq_true c
      have hl1 := hl.mono e1
      refine s_ret (ev_andV (ev_eqN (j := 4) (flen H1 e1) ev_c) fun c4 => ev_andV (b := (ws.drop 1).all isNumber) (a := isName (ws.headD [])) ?_ fun _ => ?_) fun H2 e2 => ?_
      · have c4' : ws.length = 4 := of_decide_eq_true c4
        have hw0 : ws[0]? = some (ws.headD []) := by
          cases ws with
          | nil => simp at c4'
          | cons x r => rfl
        obtain ⟨b0, hb0, hb1⟩ := hl1.at hw0
        refine ev_call (vs := [.ref b0]) (dvs := []) (ea_cons (ev_op (ev_var rfl) ev_c (rv_ixL (SqL.of (e1 _ _ hx)) (atI_nat (j := 0) hb0))) ea_nil) (SpIsName.v hb1 (ho.2 _ (List.mem_of_getElem? hw0)).2)
      · exact ev_allW (j := 2) isNumber (el_wordsN (fun w => .bl (isNumber w)) (el_from (k := 1) (ev_var rfl) ev_c (SqL.of (e1 _ _ hx))) (hl1.drop 1) (ho.drop 1).1 (fun x => rfl) (fun w hw b H2 e2 hb => fnum w (List.mem_of_mem_drop hw) b H2 (e1.trans e2) hb rfl))
      · have e : hasForm j ws = (decide (ws.length = 4) && (isName (ws.headD []) && (ws.drop 1).all isNumber)) := by
          unfold hasForm
          rw [if_pos c']
        rw [e] at k
        exact k H2 (e1.trans e2)
    · have c' : ¬ j = .use := of_decide_eq_false c
      refine q_when (et_not (et_B (ev_allW (j := 2) isNumber (el_words (fun w => .bl (isNumber w)) (ev_var rfl) (SqL.of (e1 _ _ hx)) (hl.mono e1) ho.1 (fun x => rfl) (fun w hw b H2 e2 hb => fnum w hw b H2 (e1.trans e2) hb rfl))))) (fun c2 H2 e2 => ?_) (fun c2 H2 e2 => ?_)
      · have e : hasForm j ws = false := by
          unfold hasForm
          rw [if_neg c', if_pos c2]
        rw [e] at k
        exact s_ret ev_c fun H3 e3 => k H3 ((e1.trans e2).trans e3)
      · have e12 := e1.trans e2
        refine q_when (et_test (ev_eqK (k := .charge) (ev_var rfl) ev_c)) (fun c3 H3 e3 => ?_) (fun c3 H3 e3 => ?_)
        · have e13 := e12.trans e3
          refine s_ret (ev_opL (ev_var rfl) (el_lst ea_nil (by simp)) fun np H4 hnp e4 => rv_neD (da := .list (ws.map fun w => .list (encN w))) (db := .list []) (fun H5 e5 => ⟨.lst (SqL.of (e5 _ _ (e4 _ _ (e13 _ _ hx)))) (dp_words (hl.mono (e13.trans (e4.trans e5)))), .lst (SqL.of (e5 _ _ hnp)) .nil⟩) (shaped_words ws) (shaped_words [])) fun H4 e4 => ?_
          have e : hasForm j ws = !ws.isEmpty := by
            unfold hasForm
            rw [if_neg c', if_neg (by rw [c2]; exact Bool.false_ne_true), if_pos (of_decide_eq_true c3)]
          rw [e] at k
          rw [eqv_words_nil]
          exact k H4 (e13.trans e4)
        · have e13 := e12.trans e3
          refine s_ret (ev_eqN (flen H3 e13) (ev_addN (i := 1) ev_c (ev_intB (ev_eqK (k := .holder) (ev_var rfl) ev_c)))) fun H4 e4 => ?_
          have e : hasForm j ws = decide (ws.length = 1 + (if decide (j = Kw.holder) = true then 1 else 0)) := by
            unfold hasForm
            rw [if_neg c', if_neg (by rw [c2]; exact Bool.false_ne_true), if_neg (of_decide_eq_false c3)]
            by_cases hh : j = .holder <;> simp [hh]
          rw [e] at k
          exact k H4 (e13.trans e4)
/-! ### are_within -/
theorem sc_are_within : FnScope ["name", "n", "one"] ["name", "n"] (defScope s_are_within) := ⟨rfl, rfl, rfl, by decide +kernel, rfl, by decide +kernel, by decide +kernel⟩
/-- how many numbers a line has -/
def lenOk (j : Kw) (n : List Nat) : Prop := match j with
  | .holder => n.length = 2
  | .retorts => n.length = 1
  | .leak => n.length = 1
  | .charge => n.length ≤ 2001
  | .use => n.length = 3
def spAreWithin : Sp := fun vs H Q _ => ∃ (j : Kw) (a : Addr) (n : List Nat), vs = [.str (kwS j), .ref a] ∧ H a = some (.lst (nvs n)) ∧ lenOk j n ∧ RetV (.bl (areWithin j n)) H Q
theorem SpAreWithin.v {H : Hp} {j : Kw} {a : Addr} {n : List Nat} (h : H a = some (.lst (nvs n))) (hl : lenOk j n) : SpV spAreWithin [.str (kwS j), .ref a] H (.bl (areWithin j n)) := fun H1 e Q q E => ⟨j, a, n, rfl, e _ _ h, hl, q⟩
theorem ok_are_within (T : Txt K mg d) : Ok P w K mg base CX0 2 d.f_are_within ["name", "n"] spAreWithin := by
  obtain ⟨fd, F, b⟩ := T.fn_are_within
  obtain ⟨fdW, GW, bW⟩ := ok_is_within (P := P) (w := w) (base := base) T
  refine ⟨fd, F.ok sc_are_within (fun vs H Q E h => ?_) (fun cdv A outer s H vs Q E hr h => ?_), b⟩
  · obtain ⟨j, a, n, rfl, _⟩ := h
    rfl
  · obtain ⟨j, a, n, rfl, hx, hl, k⟩ := h
    have hr1 : Room 1 _ := hr.mono (by decide)
    refine' ⟨_, pss_cons (ps_if (pt_cmpR op_eq (pv 0) (pe_gs T.k_HOLDER rfl) (nomark _)) (pss_one (ps_ret (pe_and ?a1 (pe_one ?a2)))) pss_nil)
      (pss_cons (ps_if (pt_cmpR op_eq (pv 0) (pe_gs T.k_RETORTS rfl) (nomark _)) (pss_one (ps_ret ?b1)) pss_nil)
      (pss_cons (ps_if (pt_cmpR op_eq (pv 0) (pe_gs T.k_LEAK rfl) (nomark _)) (pss_one (ps_ret ?c1)) pss_nil)
      (pss_cons (ps_if (pt_cmpR op_eq (pv 0) (pe_gs T.k_CHARGE rfl) (nomark _)) (pss_one (ps_ret ?d1)) pss_nil)
      (pss_one (ps_ret (pe_and ?e1 (pe_and ?e2 (pe_one ?e3)))))))), ?_⟩
    case a1 => exact pe_call GW hr1 rfl T.g_is_within T.k_is_within bW .nil pass0 (pa_cons (pe_ix ix_list (pv 1) pe_int (fun _ _ => rfl)) (pa_cons pe_int (pa_cons (pe_gi T.k_MOST_HELD rfl) pa_nil)))
    case a2 => exact pe_cmpR op_le (pe_ix ix_list (pv 1) pe_int (fun _ _ => rfl)) (pe_ix ix_list (pv 1) pe_int (fun _ _ => rfl)) (nomark _)
    case b1 => exact pe_call GW hr1 rfl T.g_is_within T.k_is_within bW .nil pass0 (pa_cons (pe_ix ix_list (pv 1) pe_int (fun _ _ => rfl)) (pa_cons pe_int (pa_cons (pe_gi T.k_MOST_RETORTS rfl) pa_nil)))
    case c1 => exact pe_cmpR op_le (pe_ix ix_list (pv 1) pe_int (fun _ _ => rfl)) (pe_gi T.k_MOST_LEAK rfl) (nomark _)
    case d1 =>
      refine' pe_callB (cr_all rfl) (by rfl) T.b_all boot_all (pa_cons (pe_lc (own := [("one", 2)]) (g := gName 2) rfl sc_are_within.nd (pi_list (pv 1)) (blkOk_by (own := [("one", 2)]) (N := ["name", "n", "one"]) (sc := defScope s_are_within) (by decide +kernel))
        (fun _ _ _ _ _ => pg_name (i := 2) sc_are_within.nd rfl (Or.inl rfl)) (fun _ _ _ _ _ => pts_nil) (fun _ _ _ _ _ => pe_cmpR op_le (pv 2) (pe_gi T.k_MOST_GIVEN rfl) (nomark _))) pa_nil)
    case e1 => exact pe_call GW hr1 rfl T.g_is_within T.k_is_within bW .nil pass0 (pa_cons (pe_ix ix_list (pv 1) pe_int (fun _ _ => rfl)) (pa_cons pe_int (pa_cons (pe_gi T.k_MOST_BURNT rfl) pa_nil)))
    case e2 => exact pe_cmpR op_le (pe_ix ix_list (pv 1) pe_int (fun _ _ => rfl)) (pe_gi T.k_LAST_HOUR_reading rfl) (nomark _)
    case e3 => exact pe_cmpR op_le (pe_ix ix_list (pv 1) pe_int (fun _ _ => rfl)) (pe_gi T.k_LAST_HOUR_reading rfl) (nomark _)
    have fix : ∀ {i : Nat} (hi : i < n.length) H1, Ex H H1 → Ev (tOp (rIxL K) (tVar 1) (tC (.int (i : Int)))) [some (V.str (kwS j)), some (.ref a), none] H1 (nv (n.getD i 0)) := fun {i} hi H1 e => ev_op (ev_var rfl) ev_c (rv_ixL (SqL.of (e _ _ hx)) (atN (j := i) rfl (by rw [List.getD_eq_getElem?_getD, List.getElem?_eq_getElem hi]; rfl)))
    refine q_when (et_test (ev_eqK (k := .holder) (ev_var rfl) ev_c)) (fun c H1 e1 => ?_) (fun c H1 e1 => ?_)
    · have c' : j = .holder := of_decide_eq_true c
      subst c'
      have hl' : n.length = 2 := hl
      refine s_ret (ev_andV (ev_call (vs := [nv (n.getD 0 0), nv 1, nv 30]) (dvs := []) (ea_cons (fix (i := 0) (by omega) H1 e1) (ea_cons ev_c (ea_cons ev_c ea_nil))) SpWithin.v) fun _ => ev_leN (fix (i := 1) (by omega) H1 e1) (fix (i := 0) (by omega) H1 e1)) fun H2 e2 => k H2 (e1.trans e2)
    · have c' : ¬ j = .holder := of_decide_eq_false c
      refine q_when (et_test (ev_eqK (k := .retorts) (ev_var rfl) ev_c)) (fun c2 H2 e2 => ?_) (fun c2 H2 e2 => ?_)
      · have c2' : j = .retorts := of_decide_eq_true c2
        subst c2'
        have hl' : n.length = 1 := hl
        have e12 := e1.trans e2
        refine s_ret (ev_call (vs := [nv (n.getD 0 0), nv 1, nv 3]) (dvs := []) (ea_cons (fix (i := 0) (by omega) H2 e12) (ea_cons ev_c (ea_cons ev_c ea_nil))) SpWithin.v) fun H3 e3 => k H3 (e12.trans e3)
      · have c2' : ¬ j = .retorts := of_decide_eq_false c2
        refine q_when (et_test (ev_eqK (k := .leak) (ev_var rfl) ev_c)) (fun c3 H3 e3 => ?_) (fun c3 H3 e3 => ?_)
        · have c3' : j = .leak := of_decide_eq_true c3
          subst c3'
          have hl' : n.length = 1 := hl
          have e13 := (e1.trans e2).trans e3
          refine s_ret (ev_leN (j := 5) (fix (i := 0) (by omega) H3 e13) ev_c) fun H4 e4 => k H4 (e13.trans e4)
        · have c3' : ¬ j = .leak := of_decide_eq_false c3
          refine q_when (et_test (ev_eqK (k := .charge) (ev_var rfl) ev_c)) (fun c4 H4 e4 => ?_) (fun c4 H4 e4 => ?_)
          · have c4' : j = .charge := of_decide_eq_true c4
            subst c4'
            have hl' : n.length ≤ 2001 := hl
            have e14 := ((e1.trans e2).trans e3).trans e4
            refine s_ret (ev_allN (fun x => decide (x ≤ 20)) (ev_var rfl) (SqL.of (e14 _ _ hx)) (by omega) (fun x => rfl) (fun m hm H5 e5 => ev_leN (j := 20) (ev_var rfl) ev_c)) fun H5 e5 => k H5 (e14.trans e5)
          · have c4' : ¬ j = .charge := of_decide_eq_false c4
            have c5 : j = .use := by
              cases j <;> first | rfl | contradiction
            subst c5
            have hl' : n.length = 3 := hl
            have e14 := ((e1.trans e2).trans e3).trans e4
            refine s_ret (ev_andV (ev_call (vs := [nv (n.getD 0 0), nv 1, nv 20]) (dvs := []) (ea_cons (fix (i := 0) (by omega) H4 e14) (ea_cons ev_c (ea_cons ev_c ea_nil))) SpWithin.v) fun _ => ev_andV (ev_leN (j := 23) (fix (i := 1) (by omega) H4 e14) ev_c) fun _ => ev_leN (j := 23) (fix (i := 2) (by omega) H4 e14) ev_c) fun H5 e5 => k H5 (e14.trans e5)
end
end G

namespace G
open PySem PySem.Spec PyProof.Rows L2 Evl
/-! ### the builder in the heap: once at dd, uses at uu -/
def UseAtB (d : Ads) (H : Hp) (uu : Addr) (v : V) (u : Mu14.Use) : Prop := ∃ a dx nm, v = .ref a ∧ H a = some (.ins d.cUse dx (F_Use (.ref nm) (nv u.rate) (nv u.lo) (nv u.hi))) ∧ H nm = some (.lst (nvs u.name)) ∧ nm ≠ uu
theorem UseAtB.mono {d : Ads} {H H' : Hp} {uu : Addr} {v : V} {u : Mu14.Use} (e : Ex H H') : UseAtB d H uu v u → UseAtB d H' uu v u := fun ⟨a, dx, nm, h1, h2, h3, h4⟩ => ⟨a, dx, nm, h1, e _ _ h2, e _ _ h3, h4⟩
def OnceR (H : Hp) (uu : Addr) : Option V → Option (List Nat) → Prop
  | none, none => True
  | some v, some ns => ∃ a, v = .ref a ∧ a ≠ uu ∧ H a = some (.lst (nvs ns))
  | _, _ => False
theorem OnceR.mono {H H' : Hp} {uu : Addr} (e : Ex H H') : ∀ {o : Option V} {p : Option (List Nat)}, OnceR H uu o p → OnceR H' uu o p
  | none, none, _ => trivial
  | some _, some _, ⟨a, h1, h2, h3⟩ => ⟨a, h1, h2, e _ _ h3⟩
  | none, some _, h => h.elim
  | some _, none, h => h.elim
theorem room65 {k : Nat} {A : Around} (r : Room k A) : A.units + 65 < cLine := by
  have := r.un
  omega
def ky (k : Kw) : Key := Sum.inr (kwS k)
structure BuildAt (d : Ads) (H : Hp) (b dd uu : Addr) (m : Nat) (W : Mu14.Works) : Prop where
  ex : ∃ dx kvs uvs, H b = some (.ins d.cBuilder dx (F_Builder (.ref dd) (.ref uu))) ∧ H dd = some (.dK kvs) ∧ kvs.length ≤ m ∧ (∀ k, k ≠ Kw.use → OnceR H uu (valV kvs (ky k)) (onceOf W k)) ∧ H uu = some (.lst uvs) ∧ Paired (UseAtB d H uu) uvs W.uses
theorem BuildAt.mono {d : Ads} {H H' : Hp} {b dd uu : Addr} {m : Nat} {W : Mu14.Works} (e : Ex H H') (h : BuildAt d H b dd uu m W) : BuildAt d H' b dd uu m W := by
  obtain ⟨dx, kvs, uvs, h1, h2, h3, h4, h5, h6⟩ := h.ex
  exact ⟨dx, kvs, uvs, e _ _ h1, e _ _ h2, h3, fun k hk => (h4 k hk).mono e, e _ _ h5, Paired.mapP h6 fun _ _ x => x.mono e⟩
theorem once_some {H : Hp} {uu : Addr} : ∀ {o : Option V} {p : Option (List Nat)}, OnceR H uu o p → o.isSome = p.isSome
  | none, none, _ => rfl
  | some _, some _, _ => rfl
  | none, some _, h => h.elim
  | some _, none, h => h.elim
/-- the names of the uses -/
theorem use_names {d : Ads} {H : Hp} {uu : Addr} : ∀ {uvs : List V} {us : List Mu14.Use}, Paired (UseAtB d H uu) uvs us → ∃ nms : List Addr, nms.length = us.length ∧ LL H (nms.map V.ref) (us.map (·.name)) ∧
    Paired (fun v (q : Addr × Mu14.Use) => ∃ a dx, v = .ref a ∧ H a = some (.ins d.cUse dx (F_Use (.ref q.1) (nv q.2.rate) (nv q.2.lo) (nv q.2.hi)))) uvs (nms.zip us)
  | _, _, .nil => ⟨[], rfl, .nil, .nil⟩
  | _, _, .cons ⟨a, dx, nm, h1, h2, h3, _⟩ t => by
    obtain ⟨nms, k0, k1, k2⟩ := use_names t
    exact ⟨nm :: nms, by simp [k0], .cons ⟨nm, rfl, h3⟩ k1, .cons ⟨a, dx, h1, h2⟩ k2⟩
section
variable {P : Program} {w : World} {K : PySem.W.Frag} {mg : Str → Option Value} {base : Heap} {d : Ads}
/-! ### Builder.__init__ -/
theorem sc_Builder_init : FnScope ["self"] ["self"] (defScope s_Builder_init) := ⟨rfl, rfl, rfl, by decide +kernel, rfl, by decide +kernel, by decide +kernel⟩
def spBInit (d : Ads) : Sp := fun vs H Q _ => ∃ (p dx : Addr), vs = [.ref p] ∧ H p = some (.ins d.cBuilder dx []) ∧
  ∀ H' dd uu, (∀ b o, H b = some o → b ≠ p → H' b = some o) → H dd = none → H uu = none → BuildAt d H' p dd uu 0 {} → Q .non H'
theorem ok_Builder_init (T : Txt K mg d) : Ok P w K mg base CX0 1 d.m_Builder_init ["self"] (spBInit d) := by
  obtain ⟨fd, F, b⟩ := T.fn_m_Builder_init
  refine ⟨fd, F.ok sc_Builder_init (fun vs H Q E h => ?_) (fun cdv A outer s H vs Q E hr h => ?_), b⟩
  · obtain ⟨p, dx, rfl, _⟩ := h
    rfl
  · obtain ⟨p, dx, rfl, hp, k⟩ := h
    refine' ⟨_, pss_cons ?s1 (pss_one ?s2), ?_⟩
    case s1 => exact ps_fld (pv 0) pe_dnewK rfl
    case s2 => exact ps_fld (pv 0) (pe_lst pa_nil) rfl
    intro dd hdd
    have hpd : p ≠ dd := fun z => by rw [z, hdd] at hp; cases hp
    refine ⟨_, rfl, p, d.cBuilder, dx, [], rfl, by rw [upd_ne hpd]; exact hp, T.cl_Builder, T.na_Builder_once, (by show 0 < 1000; decide), ?_⟩
    refine ⟨Nat.zero_le _, fun uu huu => ?_⟩
    have hup : uu ≠ p := fun z => by rw [z, upd_same] at huu; cases huu
    rw [upd_ne hup] at huu
    have hud : uu ≠ dd := fun z => by rw [z, upd_same] at huu; cases huu
    rw [upd_ne hud] at huu
    refine ⟨_, rfl, p, d.cBuilder, dx, _, rfl, by rw [upd_ne (Ne.symm hup)]; exact upd_same, T.cl_Builder, T.na_Builder_uses, (by show 1 < 1000; decide), ?_⟩
    refine k _ dd uu (fun bb o hb hne => ?_) hdd huu ⟨dx, [], [], ?_, ?_, Nat.le_refl _, fun kk _ => ?_, ?_, .nil⟩
    · rw [upd_ne hne, upd_ne (ne_of_none hb huu), upd_ne hne, upd_ne (ne_of_none hb hdd)]
      exact hb
    · rw [upd_same, new_Builder]
    · rw [upd_ne (Ne.symm hpd), upd_ne (Ne.symm hud), upd_ne (Ne.symm hpd)]
      exact upd_same
    · cases kk <;> exact True.intro
    · rw [upd_ne hup]
      exact upd_same
/-! ### Builder.is_there, are_too_many -/
theorem sc_Builder_is_there : FnScope ["self", "name", "words", "use"] ["self", "name", "words"] (defScope s_Builder_is_there) := ⟨rfl, rfl, rfl, by decide +kernel, rfl, by decide +kernel, by decide +kernel⟩
def spIsThere (d : Ads) : Sp := fun vs H Q _ => ∃ (b dd uu a : Addr) (m : Nat) (W : Mu14.Works) (j : Kw) (xs : List V) (ws : List (List Nat)), vs = [.ref b, .str (kwS j), .ref a] ∧ BuildAt d H b dd uu m W ∧ W.uses.length ≤ 8 ∧ H a = some (.lst xs) ∧ LL H xs ws ∧ WsOk ws ∧ (j = .use → ws ≠ []) ∧ RetV (.bl (isThere W j ws)) H Q
theorem SpIsThere.v {H : Hp} {b dd uu a : Addr} {m : Nat} {W : Mu14.Works} {j : Kw} {xs : List V} {ws : List (List Nat)} (hB : BuildAt d H b dd uu m W) (h8 : W.uses.length ≤ 8) (h : H a = some (.lst xs)) (hl : LL H xs ws) (ho : WsOk ws) (hj : j = .use → ws ≠ []) : SpV (spIsThere d) [.ref b, .str (kwS j), .ref a] H (.bl (isThere W j ws)) :=
  fun H1 e Q q E => ⟨b, dd, uu, a, m, W, j, xs, ws, rfl, hB.mono e, h8, e _ _ h, hl.mono e, ho, hj, q⟩
theorem any_names {us : List Mu14.Use} {l : List Nat} : ((us.map (·.name)).map fun w => PyData.list (encN w)).any (fun z => PyData.eqv z (.list (encN l))) = us.any fun u => decide (u.name = l) := by
  rw [List.map_map, List.any_map]
  congr 1
  funext u
  show PyData.eqv (.list (encN u.name)) (.list (encN l)) = _
  rw [PyData.eqv, eqv_encN]
theorem ok_Builder_is_there (T : Txt K mg d) : Ok P w K mg base CX0 2 d.m_Builder_is_there ["self", "name", "words"] (spIsThere d) := by
  obtain ⟨fd, F, b⟩ := T.fn_m_Builder_is_there
  refine ⟨fd, F.ok sc_Builder_is_there (fun vs H Q E h => ?_) (fun cdv A outer s H vs Q E hr h => ?_), b⟩
  · obtain ⟨b, dd, uu, a, m, W, j, xs, ws, rfl, _⟩ := h
    rfl
  · obtain ⟨b, dd, uu, a, m, W, j, xs, ws, rfl, hB, h8, hx, hl, ho, hj, k⟩ := h
    have hu1 := hu_of hr
    refine' ⟨_, pss_cons (ps_if (pt_cmpR op_eq (pv 1) (pe_gs T.k_USE rfl) (nomark _)) (pss_one (ps_ret ?a1)) pss_nil) (pss_one (ps_ret ?b1)), ?_⟩
    case a1 =>
      refine' pe_cmpR (op_inD (room65 hr)) (pe_ix ix_list (pv 2) pe_int (fun _ _ => rfl)) ?y1 (by rfl)
      case y1 =>
       refine' pe_lc (own := [("use", 3)]) (g := gName 3) (te := tFld K (tVar 3) "name") rfl sc_Builder_is_there.nd (pi_list (pe_fld (pv 0) rfl)) (blkOk_by (own := [("use", 3)]) (N := ["self", "name", "words", "use"]) (sc := defScope s_Builder_is_there) (by decide +kernel))
        (fun _ _ _ _ _ => pg_name (i := 3) sc_Builder_is_there.nd rfl (Or.inl rfl)) (fun _ _ _ _ _ => pts_nil) (fun _ _ _ _ _ => by exact (pe_fld (pv 3) rfl))
    case b1 => exact pe_cmp (pc_din hu1 (pv 1) (pe_fld (pv 0) rfl)) rfl
    obtain ⟨dx, kvs, uvs, b1, b2, b3, b4, b5, b6⟩ := hB.ex
    refine q_when (et_test (ev_eqK (k := .use) (ev_var rfl) ev_c)) (fun c H1 e1 => ?_) (fun c H1 e1 => ?_)
    · have c' : j = .use := of_decide_eq_true c
      have hw0 : ws[0]? = some (ws.headD []) := by
        cases ws with
        | nil => exact absurd rfl (hj c')
        | cons x r => rfl
      obtain ⟨wa, hwa, hwb⟩ := (hl.mono e1).at hw0
      obtain ⟨nms, n0, n1, n2⟩ := use_names b6
      obtain ⟨z1, z2, z3⟩ := paired_zip n2
      have zl : (uvs.zip (nms.zip W.uses)).length ≤ 40000 := by
        rw [List.length_zip, List.length_zip]
        omega
      refine s_ret (v := .bl (((W.uses.map (·.name)).map fun w => PyData.list (encN w)).any fun z => PyData.eqv z (.list (encN (ws.headD []))))) (ev_opL (ev_op (ev_var rfl) ev_c (rv_ixL (SqL.of (e1 _ _ hx)) (atI_nat (j := 0) hwa))) (xs := nms.map V.ref) (el_cast (el_cL (uvs.zip (nms.zip W.uses)) (·.1) (fun _ => true) (fun q => .ref q.2.1) (ev_fld (ev_var rfl) (e1 _ _ b1) T.cl_Builder T.na_Builder_uses (lk_Builder_uses _ _)) (SqL.of (e1 _ _ b5)) z1 zl (fun x => rfl) (fun n hn H2 e2 => et_yes) (fun q hq _ H2 e2 => ?_)) ?_) fun np H2 hnp e2 => ?_) fun H2 e2 => ?_
      · obtain ⟨ua, udx, h1, h2⟩ := z3 q hq
        rw [h1]
        exact ev_fld (ev_var rfl) (e2 _ _ (e1 _ _ h2)) T.cl_Use T.na_Use_name (lk_Use_name _ _ _ _)
      · rw [filt_true]
        have e : nms = (nms.zip W.uses).map (·.1) := by
          rw [List.map_fst_zip]
          omega
        conv => rhs; rw [e, z2]
        rw [List.map_map, List.map_map]
        rfl
      · exact fun H3 e3 Q3 q3 => ⟨.list (encN (ws.headD [])), (W.uses.map (·.name)).map fun w => .list (encN w), .lst (SqL.of (e3 _ _ (e2 _ _ hwb))) (dp_encN _), .lst (SqL.of (e3 _ _ hnp)) (dp_words (n1.mono ((e1.trans e2).trans e3))), shaped_encN _, shaped_words _, q3 H3 (Ex.refl H3)⟩
      · rw [any_names]
        have e : isThere W j ws = W.uses.any fun u => decide (u.name = ws.headD []) := by
          unfold isThere
          rw [if_pos c']
        rw [e] at k
        exact k H2 (e1.trans e2)
    · have c' : ¬ j = .use := of_decide_eq_false c
      have e : isThere W j ws = (valV kvs (ky j)).isSome := by
        unfold isThere
        rw [if_neg c', once_some (b4 j c')]
      rw [e] at k
      refine ⟨_, rfl, _, rfl, b, _, dx, _, _, rfl, e1 _ _ b1, T.cl_Builder, T.na_Builder_once, lk_Builder_once _ _, dd, _, rfl, DGet.k (k := ky j) (e1 _ _ b2), ?_⟩
      exact k H1 e1
theorem sc_Builder_are_too_many : FnScope ["self", "name", "words"] ["self", "name", "words"] (defScope s_Builder_are_too_many) := ⟨rfl, rfl, rfl, by decide +kernel, rfl, by decide +kernel, by decide +kernel⟩
def spTooMany (d : Ads) : Sp := fun vs H Q _ => ∃ (b dd uu a : Addr) (m : Nat) (W : Mu14.Works) (j : Kw) (xs : List V) (ws : List (List Nat)), vs = [.ref b, .str (kwS j), .ref a] ∧ BuildAt d H b dd uu m W ∧ H a = some (.lst xs) ∧ xs.length = ws.length ∧ RetV (.bl (tooMany W j ws)) H Q
theorem SpTooMany.v {H : Hp} {b dd uu a : Addr} {m : Nat} {W : Mu14.Works} {j : Kw} {xs : List V} {ws : List (List Nat)} (hB : BuildAt d H b dd uu m W) (h : H a = some (.lst xs)) (hl : xs.length = ws.length) : SpV (spTooMany d) [.ref b, .str (kwS j), .ref a] H (.bl (tooMany W j ws)) :=
  fun H1 e Q q E => ⟨b, dd, uu, a, m, W, j, xs, ws, rfl, hB.mono e, e _ _ h, hl, q⟩
theorem ok_Builder_are_too_many (T : Txt K mg d) : Ok P w K mg base CX0 1 d.m_Builder_are_too_many ["self", "name", "words"] (spTooMany d) := by
  obtain ⟨fd, F, b⟩ := T.fn_m_Builder_are_too_many
  refine ⟨fd, F.ok sc_Builder_are_too_many (fun vs H Q E h => ?_) (fun cdv A outer s H vs Q E hr h => ?_), b⟩
  · obtain ⟨b, dd, uu, a, m, W, j, xs, ws, rfl, _⟩ := h
    rfl
  · obtain ⟨b, dd, uu, a, m, W, j, xs, ws, rfl, hB, hx, hl, k⟩ := h
    refine' ⟨_, pss_cons (ps_if (pt_cmpR op_eq (pv 1) (pe_gs T.k_USE rfl) (nomark _)) (pss_one (ps_ret ?a1)) pss_nil) (pss_one (ps_ret (pe_and ?b1 (pe_one ?b2)))), ?_⟩
    case a1 => exact pe_cmpR op_eq (pe_callB call_len_seq (by rfl) T.b_len PySem.boot_len (pa_cons (pe_fld (pv 0) rfl) pa_nil)) (pe_gi T.k_MOST_USES rfl) (nomark _)
    case b1 => exact pe_cmpR op_eq (pv 1) (pe_gs T.k_CHARGE rfl) (nomark _)
    case b2 => exact pe_cmpR op_gt (pe_callB call_len_seq (by rfl) T.b_len PySem.boot_len (pa_cons (pv 2) pa_nil)) (pe_gi T.k_MOST_HOURS rfl) (nomark _)
    obtain ⟨dx, kvs, uvs, b1, b2, b3, b4, b5, b6⟩ := hB.ex
    have ul : uvs.length = W.uses.length := Paired.length b6
    refine q_when (et_test (ev_eqK (k := .use) (ev_var rfl) ev_c)) (fun c H1 e1 => ?_) (fun c H1 e1 => ?_)
    · have e : tooMany W j ws = decide (W.uses.length = 8) := by
        unfold tooMany
        rw [if_pos (of_decide_eq_true c)]
      rw [e] at k
      exact s_ret (ev_eqN (j := 8) (ev_cast (ev_lenS (ev_fld (ev_var rfl) (e1 _ _ b1) T.cl_Builder T.na_Builder_uses (lk_Builder_uses _ _)) (.inl (SqL.of (e1 _ _ b5)))) (by rw [ul]; rfl)) ev_c) fun H2 e2 => k H2 (e1.trans e2)
    · have e : tooMany W j ws = (decide (j = .charge) && decide (3 < ws.length)) := by
        unfold tooMany
        rw [if_neg (of_decide_eq_false c)]
      rw [e] at k
      exact s_ret (ev_andV (ev_eqK (k := .charge) (ev_var rfl) ev_c) fun _ => ev_gtN (j := 3) (ev_cast (ev_lenS (ev_var rfl) (.inl (SqL.of (e1 _ _ hx)))) (by rw [hl]; rfl)) ev_c) fun H2 e2 => k H2 (e1.trans e2)
end
end G

namespace G
open PySem PySem.Spec PyProof.Rows L2 Evl
section
variable {K : PySem.W.Frag} {σ : L2.St} {H H' : Hp} {ta tb te : TE} {t : TT} {a : Addr} {tA : TA} {RA : List V → Hp → Prop} {sp : Sp} {dvs vs : List V} {E : XK} {z x : V} {D : Ends} {R : V → Hp → Prop}
theorem ev_callR (h : EvAR tA σ H RA) (hs : ∀ vs H1, Ex H H1 → RA vs H1 → SpV sp (vs ++ dvs) H1 z) : Ev (tCall sp dvs E tA) σ H z := fun H1 e Q q =>
  h H1 e _ fun vs H2 e2 hv => hs vs H2 (e.trans e2) hv H2 (Ex.refl H2) Q (fun H3 e3 => q H3 (e2.trans e3)) E
theorem ev_methR {C dx : Addr} {fs : List (Str × V)} {m : Str} (h : Ev ta σ H (.ref a)) (ha : H a = some (.ins C dx fs)) (l : fs.lookup m = none) (hA : EvAR tA σ H RA) (hs : ∀ vs H1, Ex H H1 → RA vs H1 → SpV sp (.ref a :: (vs ++ dvs)) H1 z) : Ev (tMeth C m sp dvs E ta tA) σ H z := fun H1 e Q q =>
  h H1 e _ fun H2 e2 => ⟨a, dx, fs, rfl, e2 _ _ (e _ _ ha), l, hA H2 (e.trans e2) _ fun vs H3 e3 hv => hs vs H3 ((e.trans e2).trans e3) hv H3 (Ex.refl H3) Q (fun H4 e4 => q H4 ((e2.trans e3).trans e4)) E⟩
theorem ev_isN (h : Ev ta σ H x) : Ev (tOp (fun x y H Q => y = .non ∧ Q (.bl (decide (x = .non))) H) ta (tC .non)) σ H (.bl (decide (x = .non))) := fun H1 e Q q => h H1 e _ fun H2 e2 => ⟨rfl, q H2 e2⟩
theorem s_appR {l : Addr} {xs : List V} (hl : H l = some (.lst xs)) (ha : Ev ta σ H (.ref l)) (h : EvR te σ H R) (hz : xs.length < 100000) (k : ∀ v H1, Ex H H1 → R v H1 → D.nx σ (upd H1 l (.lst (xs ++ [v])))) :
    tDrop (tBM K "list" rAppend ta (tCons te tNil)) D σ H := ha H (Ex.refl H) _ fun H1 e1 =>
  ⟨Or.inl ⟨rfl, xs, SqL.of (e1 l _ hl)⟩, h H1 e1 _ fun v H2 e2 hv => ⟨l, xs, v, rfl, rfl, e2 l _ (e1 l _ hl), sz_lt hz, k v H2 (e1.trans e2) hv⟩⟩
theorem kwV_non {o : Option Kw} : decide (kwV o = V.non) = o.isNone := by
  cases o with
  | none => rfl
  | some k => exact decide_eq_false fun z => nomatch z
end
section
variable {P : Program} {w : World} {K : PySem.W.Frag} {mg : Str → Option Value} {base : Heap} {d : Ads}
/-! ### Builder.fault_of -/
theorem sc_Builder_fault_of : FnScope ["self", "words", "name", "word"] ["self", "words"] (defScope s_Builder_fault_of) := ⟨rfl, rfl, rfl, by decide +kernel, rfl, by decide +kernel, by decide +kernel⟩
def spFault (d : Ads) : Sp := fun vs H Q _ => ∃ (b dd uu a : Addr) (m : Nat) (W : Mu14.Works) (xs : List V) (ws : List (List Nat)), vs = [.ref b, .ref a] ∧ BuildAt d H b dd uu m W ∧ W.uses.length ≤ 8 ∧ H a = some (.lst xs) ∧ LL H xs ws ∧ WsOk ws ∧ ws ≠ [] ∧ RetV (nv (fault W ws)) H Q
theorem SpFault.v {H : Hp} {b dd uu a : Addr} {m : Nat} {W : Mu14.Works} {xs : List V} {ws : List (List Nat)} (hB : BuildAt d H b dd uu m W) (h8 : W.uses.length ≤ 8) (h : H a = some (.lst xs)) (hl : LL H xs ws) (ho : WsOk ws) (h0 : ws ≠ []) : SpV (spFault d) [.ref b, .ref a] H (nv (fault W ws)) :=
  fun H1 e Q q E => ⟨b, dd, uu, a, m, W, xs, ws, rfl, hB.mono e, h8, e _ _ h, hl.mono e, ho, h0, q⟩
theorem ok_Builder_fault_of (T : Txt K mg d) : Ok P w K mg base CX0 4 d.m_Builder_fault_of ["self", "words"] (spFault d) := by
  obtain ⟨fd, F, b⟩ := T.fn_m_Builder_fault_of
  obtain ⟨fdN, GN, bN⟩ := ok_is_name (P := P) (w := w) (base := base) T
  obtain ⟨fdU, GU, bU⟩ := ok_is_number (P := P) (w := w) (base := base) T
  obtain ⟨fdO, GO, bO⟩ := ok_number_of (P := P) (w := w) (base := base) T
  obtain ⟨fdT, GT, bT⟩ := ok_told_word (P := P) (w := w) (base := base) T
  obtain ⟨fdF, GF, bF⟩ := ok_has_form (P := P) (w := w) (base := base) T
  obtain ⟨fdI, GI, bI⟩ := ok_Builder_is_there (P := P) (w := w) (base := base) T
  obtain ⟨fdM, GM, bM⟩ := ok_Builder_are_too_many (P := P) (w := w) (base := base) T
  obtain ⟨fdW, GW, bW⟩ := ok_are_within (P := P) (w := w) (base := base) T
  refine ⟨fd, F.ok sc_Builder_fault_of (fun vs H Q E h => ?_) (fun cdv A outer s H vs Q E hr h => ?_), b⟩
  · obtain ⟨b, dd, uu, a, m, W, xs, ws, rfl, _⟩ := h
    rfl
  · obtain ⟨b, dd, uu, a, m, W, xs, ws, rfl, hB, h8, hx, hl, ho, h0, k⟩ := h
    have hr1 : Room 1 _ := hr.mono (by decide)
    have hr2 : Room 2 _ := hr.mono (by decide)
    refine' ⟨_, pss_cons (ps_if (pt_not (pt_val ?a1)) (pss_one (ps_ret (pe_gi T.k_NO_WORD rfl))) pss_nil)
      (pss_cons ?b1
      (pss_cons (ps_if (PW.pt (pw_or ?c1 (pw_or1 (pt_not (pt_val ?c2))))) (pss_one (ps_ret (pe_gi T.k_NOT_SO rfl))) pss_nil)
      (pss_cons (ps_if (pt_val ?d1) (pss_one (ps_ret (pe_gi T.k_THERE rfl))) pss_nil)
      (pss_cons (ps_if (pt_val ?e1) (pss_one (ps_ret (pe_gi T.k_TOO_MANY rfl))) pss_nil)
      (pss_cons (ps_if (pt_not (pt_val ?f1)) (pss_one (ps_ret (pe_gi T.k_OUTSIDE rfl))) pss_nil)
      (pss_one (ps_ret pe_int))))))), ?_⟩
    case a1 =>
      refine' pe_callB (cr_all rfl) (by rfl) T.b_all boot_all (pa_cons (pe_lc (own := [("word", 3)]) (g := gName 3) rfl sc_Builder_fault_of.nd (pi_list (pv 1)) (blkOk_by (own := [("word", 3)]) (N := ["self", "words", "name", "word"]) (sc := defScope s_Builder_fault_of) (by decide +kernel))
        (fun _ _ _ _ _ => pg_name (i := 3) sc_Builder_fault_of.nd rfl (Or.inl rfl)) (fun _ _ _ _ _ => pts_nil) (fun _ _ _ _ _ => pe_or (pe_call GN hr1 rfl T.g_is_name T.k_is_name bN .nil pass0 (by exact (pa_cons (pv 3) pa_nil))) (pe_one (pe_call GU hr1 rfl T.g_is_number T.k_is_number bU .nil pass0 (by exact (pa_cons (pv 3) pa_nil)))))) pa_nil)
    case b1 => exact ps_set (i := 2) sc_Builder_fault_of.nd rfl (Or.inl rfl) (pe_call GT hr2 rfl T.g_told_word T.k_told_word bT .nil pass0 (pa_cons (pe_ix ix_list (pv 1) pe_int (fun _ _ => rfl)) pa_nil))
    case c1 => exact pt_cmpR op_isN (pv 2) pe_non (nomark _)
    case c2 => exact pe_call GF hr2 rfl T.g_has_form T.k_has_form bF .nil pass0 (pa_cons (pv 2) (pa_cons (pe_slice sl_list (pv 1) (po_some pe_int) po_none) pa_nil))
    case d1 => exact pe_meth (pv 0) T.cl_Builder T.me_Builder_is_there GI hr2 bI .nil pass0 (pa_cons (pv 2) (pa_cons (pe_slice sl_list (pv 1) (po_some pe_int) po_none) pa_nil))
    case e1 => exact pe_meth (pv 0) T.cl_Builder T.me_Builder_are_too_many GM hr1 bM .nil pass0 (pa_cons (pv 2) (pa_cons (pe_slice sl_list (pv 1) (po_some pe_int) po_none) pa_nil))
    case f1 =>
      refine' pe_call GW hr2 rfl T.g_are_within T.k_are_within bW .nil pass0 (pa_cons (pv 2) (pa_cons ?f2 pa_nil))
      case f2 =>
        refine' pe_lc (own := [("word", 3)]) (g := gName 3) rfl sc_Builder_fault_of.nd (pi_list (pe_slice sl_list (pv 1) (po_some (pe_op op_add pe_int (pe_callTy call_int1 (by rfl) T.b_int (by decide +kernel) (pa_cons (pe_cmpR op_eq (pv 2) (pe_gs T.k_USE rfl) (nomark _)) pa_nil)))) po_none)) (blkOk_by (own := [("word", 3)]) (N := ["self", "words", "name", "word"]) (sc := defScope s_Builder_fault_of) (by decide +kernel))
          (fun _ _ _ _ _ => pg_name (i := 3) sc_Builder_fault_of.nd rfl (Or.inl rfl)) (fun _ _ _ _ _ => pts_nil) (fun _ _ _ _ _ => pe_call GO hr1 rfl T.g_number_of T.k_number_of bO .nil pass0 (by exact (pa_cons (pv 3) pa_nil)))
    have hlen : xs.length = ws.length := Paired.length hl
    obtain ⟨dx, kvs, uvs, b1, b2, b3, b4, b5, b6⟩ := hB.ex
    have hw0 : ws[0]? = some (ws.headD []) := by
      cases ws with
      | nil => exact absurd rfl h0
      | cons x r => rfl
    -- 1
    refine q_when (et_not (et_B (ev_allW (j := 3) isWord (el_words (fun w => .bl (isWord w)) (ev_var rfl) (SqL.of hx) hl ho.1 (fun x => rfl) (fun w hw bb H1 e1 hb => ev_orV (ev_call (vs := [.ref bb]) (dvs := []) (ea_cons (ev_var rfl) ea_nil) (SpIsName.v hb (ho.2 w hw).2)) fun _ => ev_call (vs := [.ref bb]) (dvs := []) (ea_cons (ev_var rfl) ea_nil) (SpIsNumber.v hb (ho.2 w hw).2 (ho.2 w hw).1)))))) (fun c H1 e1 => ?_) (fun c H1 e1 => ?_)
    · have e : fault W ws = 1 := by
        unfold fault
        rw [if_pos c]
      rw [e] at k
      exact s_ret ev_c fun H2 e2 => k H2 (e1.trans e2)
    have c1 : ¬ ((!ws.all isWord) = true) := by rw [c]; exact Bool.false_ne_true
    -- name
    obtain ⟨wa, hwa, hwb⟩ := (hl.mono e1).at hw0
    refine q_asg (v := kwV (told (ws.headD []))) (ev_call (vs := [.ref wa]) (dvs := []) (ea_cons (ev_op (ev_var rfl) ev_c (rv_ixL (SqL.of (e1 _ _ hx)) (atI_nat (j := 0) hwa))) ea_nil) (SpToldWord.v hwb)) fun H2 e2 => ?_
    have e12 := e1.trans e2
    cases ht : told (ws.headD []) with
    | none =>
      have e : fault W ws = 2 := by
        unfold fault
        rw [if_neg c1, ht]
      rw [e] at k
      refine q_when (et_or (b := true) (et_test (ev_isN (ev_var rfl))) fun z => absurd z (by decide)) (fun c H3 e3 => ?_) (fun c H3 e3 => absurd c (by decide))
      exact s_ret ev_c fun H4 e4 => k H4 (e12.trans (e3.trans e4))
    | some j =>
      have sl : ∀ {H1 : Hp} {σ : L2.St} (i : Nat), Ex H H1 → σ[1]? = some (some (V.ref a)) → EvR (tSl (rSlL K) (tVar 1) (tPart (tC (.int (i : Int)))) tNoPart) σ H1 (fun v H' => ∃ p, v = .ref p ∧ H' p = some (.lst (xs.drop i))) := fun i e hs => er_L (el_from (ev_var hs) ev_c0 (SqL.of (e _ _ hx)))
      have ar : ∀ {H1 : Hp} {σ : L2.St}, Ex H H1 → σ[1]? = some (some (V.ref a)) → σ[2]? = some (some (V.str (kwS j))) → EvAR (tCons (tVar 2) (tCons (tSl (rSlL K) (tVar 1) (tPart (tC (.int 1))) tNoPart) tNil)) σ H1 (fun vs H' => ∃ p, vs = [.str (kwS j), .ref p] ∧ H' p = some (.lst (xs.drop 1)) ∧ Ex H H') := fun {H1 σ} e hs hn =>
        ear_val (ev_var hn) fun H2 e2 => ear_cons (sl 1 (e.trans e2) hs) fun v H3 e3 hv => ear_nil fun H4 e4 => by
          obtain ⟨p, rfl, hp⟩ := hv
          exact ⟨p, rfl, e4 _ _ hp, ((e.trans e2).trans e3).trans e4⟩
      -- 2
      refine q_when (et_or (et_test (ev_isN (x := .str (kwS j)) (ev_var rfl))) fun _ => et_not (et_B (ev_callR (z := .bl (hasForm j (ws.drop 1))) (dvs := []) (ar e12 rfl rfl) fun vs H3 e3 ⟨p, hv, hp, e⟩ => by rw [hv]; exact SpHasForm.v hp ((hl.mono e).drop 1) (ho.drop 1)))) (fun c2 H3 e3 => ?_) (fun c2 H3 e3 => ?_)
      · have c2' : (!hasForm j (ws.drop 1)) = true := by
          rw [decide_eq_false (fun z => nomatch z : ¬ (V.str (kwS j) = V.non)), Bool.false_or] at c2
          exact c2
        have e : fault W ws = 2 := by
          unfold fault
          rw [if_neg c1, ht]
          show (if (!hasForm j (ws.drop 1)) = true then 2 else _) = 2
          rw [if_pos c2']
        rw [e] at k
        exact s_ret ev_c fun H4 e4 => k H4 (e12.trans (e3.trans e4))
      have hform : hasForm j (ws.drop 1) = true := by
        rw [decide_eq_false (fun z => nomatch z : ¬ (V.str (kwS j) = V.non)), Bool.false_or] at c2
        simpa using c2
      have e13 := e12.trans e3
      have hfl : fault W ws = if isThere W j (ws.drop 1) = true then 4 else if tooMany W j (ws.drop 1) = true then 6 else if (!areWithin j (numbersOf (ws.drop (1 + if j = .use then 1 else 0)))) = true then 5 else 0 := by
        unfold fault
        rw [if_neg c1, ht]
        show (if (!hasForm j (ws.drop 1)) = true then 2 else _) = _
        rw [if_neg (by rw [hform]; exact Bool.false_ne_true)]
      -- 4
      refine q_when (et_B (ev_methR (z := .bl (isThere W j (ws.drop 1))) (dvs := []) (ev_var rfl) (e13 _ _ b1) (lk_Builder_no_is_there _ _) (ar e13 rfl rfl) fun vs H4 e4 ⟨p, hv, hp, e⟩ => by
        rw [hv]
        exact SpIsThere.v (hB.mono e) h8 hp ((hl.mono e).drop 1) (ho.drop 1) fun hj => by subst hj; exact form_use_ne hform)) (fun c3 H4 e4 => ?_) (fun c3 H4 e4 => ?_)
      · rw [hfl, if_pos c3] at k
        exact s_ret ev_c fun H5 e5 => k H5 (e13.trans (e4.trans e5))
      have e14 := e13.trans e4
      -- 6
      refine q_when (et_B (ev_methR (z := .bl (tooMany W j (ws.drop 1))) (dvs := []) (ev_var rfl) (e14 _ _ b1) (lk_Builder_no_are_too_many _ _) (ar e14 rfl rfl) fun vs H5 e5 ⟨p, hv, hp, e⟩ => by
        rw [hv]
        exact SpTooMany.v (hB.mono e) hp (by rw [List.length_drop, List.length_drop, hlen]))) (fun c4 H5 e5 => ?_) (fun c4 H5 e5 => ?_)
      · rw [hfl, if_neg (by rw [c3]; exact Bool.false_ne_true), if_pos c4] at k
        exact s_ret ev_c fun H6 e6 => k H6 (e14.trans (e5.trans e6))
      have e15 := e14.trans e5
      have dg := form_digits hform
      have ln : lenOk j (numbersOf (ws.drop (1 + if j = .use then 1 else 0))) := by
        have z := form_len hform ho.1
        cases j <;> exact z
      have hidx : (1 + if decide (j = Kw.use) = true then 1 else 0 : Nat) = 1 + if j = .use then 1 else 0 := by
        by_cases hj : j = .use <;> simp [hj]
      -- 5
      refine q_when (et_not (et_B (ev_callR (z := .bl (areWithin j (numbersOf (ws.drop (1 + if j = .use then 1 else 0))))) (dvs := []) (RA := fun vs H' => ∃ p, vs = [.str (kwS j), .ref p] ∧ H' p = some (.lst (nvs (numbersOf (ws.drop (1 + if j = .use then 1 else 0)))))) (ear_val (ev_var rfl) fun H6 e6 => ear_cons (er_L (xs := nvs (numbersOf (ws.drop (1 + if j = .use then 1 else 0)))) (el_cast (el_wordsN (ws := ws.drop (1 + if j = .use then 1 else 0)) (xs := xs.drop (1 + if j = .use then 1 else 0)) (fun w => nv (Mu14.numberOf w)) (el_cast (el_from (k := 1 + if decide (j = Kw.use) = true then 1 else 0) (ev_var rfl) (ev_addN (i := 1) ev_c (ev_intB (ev_eqK (k := .use) (ev_var rfl) ev_c))) (SqL.of (e6 _ _ (e15 _ _ hx)))) (by rw [hidx])) ((hl.mono (e15.trans e6)).drop _) (ho.drop _).1 (fun x => rfl) (fun w hw bb H7 e7 hb => ev_call (vs := [.ref bb]) (dvs := []) (ea_cons (ev_var rfl) ea_nil) (SpNumberOf.v hb (dg w hw)))) ?_)) fun v H7 e7 hv => ear_nil fun H8 e8 => ?_) fun vs H6 e6 ⟨p, hv, hp⟩ => by rw [hv]; exact SpAreWithin.v hp ln))) (fun c5 H6 e6 => ?_) (fun c5 H6 e6 => ?_)
      · unfold nvs numbersOf
        rw [List.map_map]
        rfl
      · obtain ⟨p, rfl, hp⟩ := hv
        exact ⟨p, rfl, e8 _ _ hp⟩
      · rw [hfl, if_neg (by rw [c3]; exact Bool.false_ne_true), if_neg (by rw [c4]; exact Bool.false_ne_true), if_pos c5] at k
        exact s_ret ev_c fun H7 e7 => k H7 (e15.trans (e6.trans e7))
      · rw [hfl, if_neg (by rw [c3]; exact Bool.false_ne_true), if_neg (by rw [c4]; exact Bool.false_ne_true), if_neg (by rw [c5]; exact Bool.false_ne_true)] at k
        exact s_ret ev_c fun H7 e7 => k H7 (e15.trans (e6.trans e7))
end
end G

namespace G
open PySem PySem.Spec PyProof.Rows L2 Evl
theorem SpTold.some {l : List Nat} {j : Kw} (h : told l = some j) : kwV (told l) = .str (kwS j) := by rw [h]; rfl
/-- what the change of uses (at uu) leaves -/
theorem build_use {d : Ads} {H H1 : Hp} {b dd uu : Addr} {m : Nat} {W : Mu14.Works} {u : Mu14.Use} {ua udx nm : Addr} (h : BuildAt d H b dd uu m W) (e : Ex H H1) (hu : H1 ua = some (.ins d.cUse udx (F_Use (.ref nm) (nv u.rate) (nv u.lo) (nv u.hi)))) (hn : H1 nm = some (.lst (nvs u.name))) (hne : nm ≠ uu) {uvs : List V} (huv : H uu = some (.lst uvs)) :
    BuildAt d (upd H1 uu (.lst (uvs ++ [.ref ua]))) b dd uu (m + 1) { W with uses := W.uses ++ [u] } := by
  obtain ⟨dx, kvs, uvs', h1, h2, h3, h4, h5, h6⟩ := (h.mono e).ex
  have huv1 := e _ _ huv
  rw [huv1] at h5
  cases h5
  have keep : ∀ {x : Addr} {o : HO}, H1 x = some o → x ≠ uu → upd H1 uu (.lst (uvs ++ [.ref ua])) x = some o := fun hx hne => by rw [upd_ne hne]; exact hx
  have ni : ∀ {x C dx : Addr} {fs : List (Str × V)}, H1 x = some (.ins C dx fs) → x ≠ uu := fun hx z => by rw [z, huv1] at hx; cases hx
  have nd : ∀ {x : Addr} {kvs : List (Key × V)}, H1 x = some (.dK kvs) → x ≠ uu := fun hx z => by rw [z, huv1] at hx; cases hx
  refine ⟨dx, kvs, uvs ++ [.ref ua], keep h1 (ni h1), keep h2 (nd h2), Nat.le_succ_of_le h3, fun k hk => ?_, upd_same, ?_⟩
  · have q := h4 k hk
    have e1 : onceOf { W with uses := W.uses ++ [u] } k = onceOf W k := by cases k <;> rfl
    rw [e1]
    revert q
    cases valV kvs (ky k) <;> cases onceOf W k
    · exact id
    · exact id
    · exact id
    · rintro ⟨a, q1, q2, q3⟩
      exact ⟨a, q1, q2, keep q3 q2⟩
  · exact Paired.snoc (Paired.mapP h6 fun _ _ ⟨a, dx', nm', q1, q2, q3, q4⟩ => ⟨a, dx', nm', q1, keep q2 (ni q2), keep q3 q4, q4⟩) ⟨ua, udx, nm, rfl, keep hu (ni hu), keep hn hne, hne⟩
/-- what the change of once (at dd) leaves -/
theorem build_once {d : Ads} {H H1 : Hp} {b dd uu : Addr} {m : Nat} {W X : Mu14.Works} {j : Kw} {la : Addr} {ns : List Nat} (h : BuildAt d H b dd uu m W) (e : Ex H H1) (hl : H1 la = some (.lst (nvs ns))) (hne : la ≠ uu) {kvs : List (Key × V)} (hk : H1 dd = some (.dK kvs))
    (ho : ∀ k, k ≠ Kw.use → onceOf X k = if k = j then some ns else onceOf W k) (hu : X.uses = W.uses) :
    BuildAt d (upd H1 dd (.dK (putK kvs (ky j) (.ref la)))) b dd uu (m + 1) X := by
  obtain ⟨dx, kvs', uvs, h1, h2, h3, h4, h5, h6⟩ := (h.mono e).ex
  rw [hk] at h2
  cases h2
  have keep : ∀ {x : Addr} {o : HO}, H1 x = some o → x ≠ dd → upd H1 dd (.dK (putK kvs (ky j) (.ref la))) x = some o := fun hx hne => by rw [upd_ne hne]; exact hx
  have ni : ∀ {x C dx : Addr} {fs : List (Str × V)}, H1 x = some (.ins C dx fs) → x ≠ dd := fun hx z => by rw [z, hk] at hx; cases hx
  have nl : ∀ {x : Addr} {xs : List V}, H1 x = some (.lst xs) → x ≠ dd := fun hx z => by rw [z, hk] at hx; cases hx
  refine ⟨dx, _, uvs, keep h1 (ni h1), upd_same, Nat.le_trans (length_putK _ _ _) (Nat.succ_le_succ h3), fun k hk' => ?_, keep h5 (nl h5), ?_⟩
  · rw [valV_put, ho k hk']
    by_cases c : k = j
    · subst c
      rw [if_pos rfl, if_pos rfl]
      exact ⟨la, rfl, hne, keep hl (nl hl)⟩
    · have c' : ky k ≠ ky j := fun z => c (kwS_ne (Sum.inr.inj z))
      rw [if_neg c', if_neg c]
      have q := h4 k hk'
      revert q
      cases valV kvs (ky k) <;> cases onceOf W k
      · exact id
      · exact id
      · exact id
      · rintro ⟨a, q1, q2, q3⟩
        exact ⟨a, q1, q2, keep q3 (nl q3)⟩
  · rw [hu]
    exact Paired.mapP h6 fun _ _ ⟨a, dx', nm', q1, q2, q3, q4⟩ => ⟨a, dx', nm', q1, keep q2 (ni q2), keep q3 (nl q3), q4⟩
section
variable {P : Program} {w : World} {K : PySem.W.Frag} {mg : Str → Option Value} {base : Heap} {d : Ads}
/-! ### Builder.take -/
theorem sc_Builder_take : FnScope ["self", "words", "name", "n", "once", "word"] ["self", "words"] (defScope s_Builder_take) := ⟨rfl, rfl, rfl, by decide +kernel, rfl, by decide +kernel, by decide +kernel⟩
def spTake (d : Ads) : Sp := fun vs H Q _ => ∃ (b dd uu a : Addr) (m : Nat) (W : Mu14.Works) (xs : List V) (ws : List (List Nat)), vs = [.ref b, .ref a] ∧ BuildAt d H b dd uu m W ∧ m ≤ 5000 ∧ W.uses.length ≤ 8 ∧ H a = some (.lst xs) ∧ LL H xs ws ∧ (∀ v ∈ xs, v ≠ .ref uu) ∧ WsOk ws ∧ fault W ws = 0 ∧
  ∀ H', BuildAt d H' b dd uu (m + 1) (takeW W ws) → (∀ x o, H x = some o → x ≠ dd → x ≠ uu → H' x = some o) → Q .non H'
theorem ok_Builder_take (T : Txt K mg d) : Ok P w K mg base CX0 4 d.m_Builder_take ["self", "words"] (spTake d) := by
  obtain ⟨fd, F, b⟩ := T.fn_m_Builder_take
  obtain ⟨fdO, GO, bO⟩ := ok_number_of (P := P) (w := w) (base := base) T
  obtain ⟨fdT, GT, bT⟩ := ok_told_word (P := P) (w := w) (base := base) T
  obtain ⟨fdU, GU, bU⟩ := ok_Use_init (P := P) (w := w) (base := base) T
  refine ⟨fd, F.ok sc_Builder_take (fun vs H Q E h => ?_) (fun cdv A outer s H vs Q E hr h => ?_), b⟩
  · obtain ⟨b, dd, uu, a, m, W, xs, ws, rfl, _⟩ := h
    rfl
  · obtain ⟨b, dd, uu, a, m, W, xs, ws, rfl, hB, hm, h8, hx, hl, hnu, ho, hf, k⟩ := h
    have hr1 : Room 1 _ := hr.mono (by decide)
    have hr2 : Room 2 _ := hr.mono (by decide)
    have hu1 := hu_of hr
    refine' ⟨_, pss_cons ?s1 (pss_one (ps_if (pt_cmpR op_eq (pv 2) (pe_gs T.k_USE rfl) (nomark _)) (pss_cons ?a1 (pss_one ?a2)) (pss_cons ?b1 (pss_one ?b2)))), ?_⟩
    case s1 => exact ps_set (i := 2) sc_Builder_take.nd rfl (Or.inl rfl) (pe_call GT hr2 rfl T.g_told_word T.k_told_word bT .nil pass0 (pa_cons (pe_ix ix_list (pv 1) pe_int (fun _ _ => rfl)) pa_nil))
    case a1 =>
      refine' ps_setLc (i := 3) (own := [("word", 5)]) (g := gName 5) rfl sc_Builder_take.nd rfl rfl (sw_true rfl rfl rfl (by decide +kernel)) (pi_list (pe_slice sl_list (pv 1) (po_some pe_int) po_none)) (blkOk_by (own := [("word", 5)]) (N := ["self", "words", "name", "n", "once", "word"]) (sc := defScope s_Builder_take) (by decide +kernel))
        (fun _ _ _ _ _ => pg_name (i := 5) sc_Builder_take.nd rfl (Or.inl rfl)) (fun _ _ _ _ _ => pts_nil) (fun _ _ _ _ _ => pe_call GO hr1 rfl T.g_number_of T.k_number_of bO .nil pass0 (by exact (pa_cons (pv 5) pa_nil)))
    case a2 =>
      refine' ps_expr (pe_bm PySem.F.plainAttrs_list PySem.F.slot_list_append PySem.F.type_list_append mt_append (pe_fld (pv 0) rfl) (pa_cons ?a3 pa_nil))
      case a3 => exact pe_make T.mk_Use GU hr2 rfl T.g_Use bU .nil pass0 (pa_cons (pe_ix ix_list (pv 1) pe_int (fun _ _ => rfl)) (pa_cons (pe_ix ix_list (pv 3) pe_int (fun _ _ => rfl)) (pa_cons (pe_ix ix_list (pv 3) pe_int (fun _ _ => rfl)) (pa_cons (pe_ix ix_list (pv 3) pe_int (fun _ _ => rfl)) pa_nil))))
    case b1 => exact ps_set (i := 4) sc_Builder_take.nd rfl (Or.inl rfl) (pe_fld (pv 0) rfl)
    case b2 =>
      refine' ps_dput hu1 (pv 4) (pv 2) ?b3 rfl
      case b3 =>
        refine' pe_lc (own := [("word", 5)]) (g := gName 5) rfl sc_Builder_take.nd (pi_list (pe_slice sl_list (pv 1) (po_some pe_int) po_none)) (blkOk_by (own := [("word", 5)]) (N := ["self", "words", "name", "n", "once", "word"]) (sc := defScope s_Builder_take) (by decide +kernel))
          (fun _ _ _ _ _ => pg_name (i := 5) sc_Builder_take.nd rfl (Or.inl rfl)) (fun _ _ _ _ _ => pts_nil) (fun _ _ _ _ _ => pe_call GO hr1 rfl T.g_number_of T.k_number_of bO .nil pass0 (by exact (pa_cons (pv 5) pa_nil)))
    obtain ⟨j, FO⟩ := fine_of hf
    obtain ⟨dx, kvs, uvs, b1, b2, b3, b4, b5, b6⟩ := hB.ex
    have h0 : ws ≠ [] := fun z => by
      have := FO.tl
      rw [z] at this
      have t0 : told ([] : List Nat) = none := by decide
      have t1 : told ([] : List Nat) = some j := this
      rw [t0] at t1
      cases t1
    have hw0 : ws[0]? = some (ws.headD []) := by
      cases ws with
      | nil => exact absurd rfl h0
      | cons x r => rfl
    obtain ⟨wa, hwa, hwb⟩ := hl.at hw0
    have dg := form_digits FO.form
    refine q_asg (v := .str (kwS j)) (ev_cast (ev_call (vs := [.ref wa]) (dvs := []) (ea_cons (ev_op (ev_var rfl) ev_c (rv_ixL (SqL.of hx) (atI_nat (j := 0) hwa))) ea_nil) (SpToldWord.v hwb)) (SpTold.some FO.tl)) fun H1 e1 => ?_
    have comp : ∀ {H2 : Hp} {σ : L2.St} (i : Nat), Ex H H2 → σ[1]? = some (some (V.ref a)) → (∀ x, wipe ((wipe σ [5]).set 5 (some x)) [5] = wipe σ [5]) → (∀ x, ((wipe σ [5]).set 5 (some x))[5]? = some (some x)) → (∀ w ∈ ws.drop i, w.all Mu14.digit = true) →
        EvL (tLc (iList K (tSl (rSlL K) (tVar 1) (tPart (tC (.int (i : Int)))) tNoPart)) (gName 5) tYes (tCall spNumberOf [] E0 (tCons (tVar 5) tNil)) [5]) σ H2 (nvs (numbersOf (ws.drop i))) := fun i e hs hw hv hd =>
      el_cast (el_wordsN (fun w => nv (Mu14.numberOf w)) (el_from (ev_var hs) ev_c0 (SqL.of (e _ _ hx))) ((hl.mono e).drop i) (ho.drop i).1 hw (fun w hw bb H7 e7 hb => ev_call (vs := [.ref bb]) (dvs := []) (ea_cons (ev_var (hv _)) ea_nil) (SpNumberOf.v hb (hd w hw)))) (by unfold nvs numbersOf; rw [List.map_map]; rfl)
    refine s_if (et_test (ev_eqK (k := .use) (ev_var rfl) ev_c)) (fun c H2 e2 => ?_) (fun c H2 e2 => ?_)
    · have c' : j = .use := of_decide_eq_true c
      subst c'
      obtain ⟨nm, n0, n1, n2, hnm, hnn, htk⟩ := take_use FO
      have e12 := e1.trans e2
      refine q_asgL (comp 2 e12 rfl (fun x => rfl) (fun x => rfl) dg) fun np H3 hnp e3 hnp3 => ?_
      rw [hnn] at hnp3
      have e13 := e12.trans e3
      obtain ⟨na, hna, hnb⟩ := hl.at hnm
      refine s_appR (R := fun v H' => ∃ ua udx, v = .ref ua ∧ H' ua = some (.ins d.cUse udx (F_Use (.ref na) (nv n0) (nv n1) (nv n2)))) (e13 _ _ b5) (ev_fld (ev_var rfl) (e13 _ _ b1) T.cl_Builder T.na_Builder_uses (lk_Builder_uses _ _)) (er_mono (er_make (RA := fun vs H' => vs = [.ref na, nv n0, nv n1, nv n2]) (ear_of (vs := [.ref na, nv n0, nv n1, nv n2]) (ea_cons (ev_op (ev_var rfl) ev_c (rv_ixL (SqL.of (e13 _ _ hx)) (atI_nat (j := 1) hna))) (ea_cons (ev_op (ev_var rfl) ev_c (rv_ixL (SqL.of hnp3) (atI_nat (j := 0) rfl))) (ea_cons (ev_op (ev_var rfl) ev_c (rv_ixL (SqL.of hnp3) (atI_nat (j := 1) rfl))) (ea_cons (ev_op (ev_var rfl) ev_c (rv_ixL (SqL.of hnp3) (atI_nat (j := 2) rfl))) ea_nil)))) fun _ _ => rfl) (fun vs H' hv => by rw [hv]; rfl)) ?_) ?_ ?_
      · rintro v H4 e4 ⟨ua, udx, vs, H0, rfl, hua, rfl, e0⟩
        exact ⟨ua, udx, rfl, hua⟩
      · have := Paired.length b6
        omega
      · rintro v H4 e4 ⟨ua, udx, rfl, hua⟩
        have e14 := e13.trans e4
        have hne : na ≠ uu := fun z => hnu _ (List.mem_of_getElem? hna) (by rw [z])
        refine k _ ?_ fun x o hx0 hxd hxu => ?_
        · rw [htk]
          exact build_use (u := ⟨nm, n0, n1, n2⟩) hB e14 hua (e14 _ _ hnb) hne b5
        · rw [upd_ne hxu]
          exact e14 _ _ hx0
    · have c' : ¬ j = .use := of_decide_eq_false c
      have e12 := e1.trans e2
      have dg1 : ∀ w ∈ ws.drop 1, w.all Mu14.digit = true := by
        rw [if_neg c'] at dg
        exact dg
      refine q_asg (ev_fld (ev_var rfl) (e12 _ _ b1) T.cl_Builder T.na_Builder_once (lk_Builder_once _ _)) fun H3 e3 => ?_
      have e13 := e12.trans e3
      refine comp 1 e13 rfl (fun x => rfl) (fun x => rfl) dg1 H3 (Ex.refl H3) _ fun la H4 hla e4 hla4 => ?_
      have e14 := e13.trans e4
      obtain ⟨t1, t2⟩ := take_once FO c'
      have hne : la ≠ uu := fun z => by
        rw [z, e13 _ _ b5] at hla
        cases hla
      refine ⟨_, rfl, _, rfl, dd, _, rfl, DPut.k (k := ky j) (e14 _ _ b2) ?_, ?_⟩
      · rw [sizeLine_eq]
        omega
      · refine k _ (build_once hB e14 hla4 hne (e14 _ _ b2) t1 t2) fun x o hx0 hxd hxu => ?_
        rw [upd_ne hxd]
        exact e14 _ _ hx0
/-! ### Builder.made -/
theorem sc_Builder_made : FnScope ["self", "holds", "first", "leak"] ["self"] (defScope s_Builder_made) := ⟨rfl, rfl, rfl, by decide +kernel, rfl, by decide +kernel, by decide +kernel⟩
def WorksR (d : Ads) (W : Mu14.Works) : V → Hp → Prop := fun v H' => ∃ a, v = .ref a ∧ WorksAt d H' a W
def spMade (d : Ads) : Sp := fun vs H Q _ => ∃ (b dd uu : Addr) (m : Nat) (W : Mu14.Works), vs = [.ref b] ∧ BuildAt d H b dd uu m W ∧ Whole W ∧ RetR (WorksR d W) H Q
theorem once_at {H : Hp} {uu : Addr} {o : Option V} {ns : List Nat} (h : OnceR H uu o (some ns)) : ∃ a, o = some (.ref a) ∧ H a = some (.lst (nvs ns)) := by
  cases o with
  | none => exact h.elim
  | some v =>
    obtain ⟨a, h1, _, h3⟩ := h
    exact ⟨a, by rw [h1], h3⟩
theorem ok_Builder_made (T : Txt K mg d) : Ok P w K mg base CX0 4 d.m_Builder_made ["self"] (spMade d) := by
  obtain ⟨fd, F, b⟩ := T.fn_m_Builder_made
  obtain ⟨fdW, GW, bW⟩ := ok_Works_init (P := P) (w := w) (base := base) T
  refine ⟨fd, F.ok sc_Builder_made (fun vs H Q E h => ?_) (fun cdv A outer s H vs Q E hr h => ?_), b⟩
  · obtain ⟨b, dd, uu, m, W, rfl, _⟩ := h
    rfl
  · obtain ⟨b, dd, uu, m, W, rfl, hB, hw, k⟩ := h
    have hr2 : Room 2 _ := hr.mono (by decide)
    have hu1 := hu_of hr
    refine' ⟨_, pss_cons ?s1 (pss_cons ?s2 (pss_one (ps_ret ?s3))), ?_⟩
    case s1 => exact ps_asg (pe_dget hu1 (pe_fld (pv 0) rfl) (pe_gs T.k_HOLDER rfl) (fun _ _ => rfl)) (pg_unl rfl (pgs_cons (pg_name (i := 1) sc_Builder_made.nd rfl (Or.inl rfl)) (pgs_cons (pg_name (i := 2) sc_Builder_made.nd rfl (Or.inl rfl)) pgs_nil)))
    case s2 => exact ps_set (i := 3) sc_Builder_made.nd rfl (Or.inl rfl) (pe_ix ix_list (pe_dget2 hu1 (pe_fld (pv 0) rfl) (pe_gs T.k_LEAK rfl) (pe_lst (pa_cons pe_int pa_nil)) ⟨rfl, rfl, rfl, rfl⟩) pe_int (fun _ _ => rfl))
    case s3 => exact pe_make T.mk_Works GW hr2 rfl T.g_Works bW .nil pass0 (pa_cons (pv 1) (pa_cons (pv 2) (pa_cons (pe_ix ix_list (pe_dget hu1 (pe_fld (pv 0) rfl) (pe_gs T.k_RETORTS rfl) (fun _ _ => rfl)) pe_int (fun _ _ => rfl)) (pa_cons (pv 3) (pa_cons (pe_callTy call_tuple_of (by rfl) T.b_tuple boot_tuple (pa_cons (pe_dget hu1 (pe_fld (pv 0) rfl) (pe_gs T.k_CHARGE rfl) (fun _ _ => rfl)) pa_nil)) (pa_cons (pe_fld (pv 0) rfl) pa_nil))))))
    obtain ⟨dx, kvs, uvs, b1, b2, b3, b4, b5, b6⟩ := hB.ex
    obtain ⟨⟨c, f⟩, hhold⟩ := Option.isSome_iff_exists.mp hw.h1
    obtain ⟨r, hret⟩ := Option.isSome_iff_exists.mp hw.h2
    have o1 : onceOf W .holder = some [c, f] := by simp [onceOf, hhold]
    have o2 : onceOf W .retorts = some [r] := by simp [onceOf, hret]
    have o3 : onceOf W .charge = some W.charge := by
      have := hw.h3
      simp [onceOf, this]
    have q1 := b4 .holder (by decide)
    have q2 := b4 .retorts (by decide)
    have q3 := b4 .charge (by decide)
    have q4 := b4 .leak (by decide)
    rw [o1] at q1
    rw [o2] at q2
    rw [o3] at q3
    obtain ⟨ha, hv1, hv2⟩ := once_at q1
    obtain ⟨ra, rv1, rv2⟩ := once_at q2
    obtain ⟨ca, cv1, cv2⟩ := once_at q3
    have get : ∀ {H1 : Hp} (kk : Kw) (v : V), Ex H H1 → valV kvs (ky kk) = some v → DGet H1 dd (.str (kwS kk)) (some v) := fun {H1} kk v e h => by
      have z : DGet H1 dd (kV (ky kk)) (valV kvs (ky kk)) := DGet.k (k := ky kk) (e _ _ b2)
      rw [h] at z
      exact z
    -- holds, first
    refine ⟨_, rfl, b, _, dx, _, _, rfl, b1, T.cl_Builder, T.na_Builder_once, lk_Builder_once _ _, dd, .ref ha, rfl, get .holder _ (Ex.refl H) hv1, ha, _, rfl, SqL.of hv2, rfl, ⟨_, _, rfl, _, _, rfl, rfl, ?_⟩⟩
    -- leak
    have leak : EvR (tOp (rIxL K) (tDGet2 (tFld K (tVar 0) "once") (tC (.str "leak")) (tLst (tCons (tC (.int 0)) tNil))) (tC (.int 0))) [some (V.ref b), some (nv c), some (nv f), none] H (fun v _ => v = nv (Mu14.leakOf W)) := fun H1 e Q q => by
      refine ⟨_, rfl, b, _, dx, _, _, rfl, e _ _ b1, T.cl_Builder, T.na_Builder_once, lk_Builder_once _ _, dd, rfl, .inl ⟨kvs, .inl (e _ _ b2)⟩, ?_⟩
      refine ⟨(by show 1 ≤ sizeLine; decide), fun p hp => ?_⟩
      have e1 : Ex H1 (upd H1 p (.lst [V.int 0])) := Ex.new hp
      refine ⟨valV kvs (ky .leak), DGet.k (k := ky .leak) (e1 _ _ (e _ _ b2)), ?_⟩
      cases hlk : W.leak with
      | none =>
        have o4 : onceOf W .leak = none := by simp [onceOf, hlk]
        rw [o4] at q4
        have hn : valV kvs (ky .leak) = none := by
          cases hq : valV kvs (ky .leak) with
          | none => rfl
          | some v => rw [hq] at q4; exact q4.elim
        rw [hn]
        refine ⟨p, [V.int 0], 0, V.int 0, rfl, rfl, SqL.of upd_same, rfl, ?_⟩
        refine q _ _ e1 ?_
        unfold Mu14.leakOf
        rw [hlk]
        rfl
      | some n =>
        have o4 : onceOf W .leak = some [n] := by simp [onceOf, hlk]
        rw [o4] at q4
        obtain ⟨la, lv1, lv2⟩ := once_at q4
        rw [lv1]
        refine ⟨la, [nv n], 0, nv n, rfl, rfl, SqL.of (e1 _ _ (e _ _ lv2)), rfl, ?_⟩
        refine q _ _ e1 ?_
        unfold Mu14.leakOf
        rw [hlk]
        rfl
    refine q_asgR leak ?_
    rintro v H1 e1 rfl
    refine s_retR (er_make (RA := fun vs H' => ∃ t, vs = [nv c, nv f, nv r, nv (Mu14.leakOf W), .ref t, .ref uu] ∧ H' t = some (.tup (nvs W.charge))) ?_ ?_) ?_
    · refine ear_val (ev_var rfl) fun H2 e2 => ear_val (ev_var rfl) fun H3 e3 => ?_
      have e13 := e1.trans (e2.trans e3)
      refine ear_val (v := nv r) (fun H4 e4 Q q => ⟨_, rfl, b, _, dx, _, _, rfl, (e13.trans e4) _ _ b1, T.cl_Builder, T.na_Builder_once, lk_Builder_once _ _, dd, .ref ra, rfl, get .retorts _ (e13.trans e4) rv1, ra, [nv r], 0, nv r, rfl, rfl, SqL.of (e4 _ _ (e13 _ _ rv2)), rfl, q H4 (Ex.refl H4)⟩) fun H4 e4 => ear_val (ev_var rfl) fun H5 e5 => ?_
      have e15 := e13.trans (e4.trans e5)
      refine ear_cons (R := fun v H' => ∃ t, v = .ref t ∧ H' t = some (.tup (nvs W.charge))) (fun H6 e6 Q q => ⟨_, rfl, b, _, dx, _, _, rfl, (e15.trans e6) _ _ b1, T.cl_Builder, T.na_Builder_once, lk_Builder_once _ _, dd, .ref ca, rfl, get .charge _ (e15.trans e6) cv1, ca, nvs W.charge, rfl, .inl ⟨SqL.of (e6 _ _ (e15 _ _ cv2)), fun l hl => q _ _ (Ex.new hl) ⟨l, rfl, upd_same⟩⟩⟩) fun v H6 e6 hv => ?_
      obtain ⟨t, rfl, ht⟩ := hv
      exact ear_val (ev_fld (ev_var rfl) (e6 _ _ (e15 _ _ b1)) T.cl_Builder T.na_Builder_uses (lk_Builder_uses _ _)) fun H7 e7 => ear_nil fun H8 e8 => ⟨t, rfl, e8 _ _ (e7 _ _ ht)⟩
    · rintro vs H' ⟨t, rfl, _⟩
      rfl
    · rintro v H2 e2 ⟨x, xdx, vs, H0, rfl, hx, ⟨t, rfl, ht⟩, e0⟩
      refine k _ H2 (e1.trans e2) ⟨x, rfl, xdx, t, uu, uvs, ?_, e0 _ _ ht, e2 _ _ (e1 _ _ b5), Paired.mapP b6 fun _ _ ⟨a, dx', nm', z1, z2, z3, z4⟩ => ⟨a, dx', nm', z1, e2 _ _ (e1 _ _ z2), e2 _ _ (e1 _ _ z3)⟩⟩
      rw [hx]
      unfold Mu14.cap
      rw [hhold, hret]
      rfl
end
end G

namespace G
open PySem PySem.Spec PyProof.Rows L2 Evl
/-! ### own exceptions with a dict -/
def spXI (C : Addr) (mkF : List V → List (Str × V)) (n : Nat) : Sp := fun vs H Q _ => ∃ (a : Addr) (ws : List V), vs = .ref a :: ws ∧ ws.length = n ∧ H a = some (exo a C none) ∧
  ∀ dx H', H dx = none → dx ≠ a → (∀ b o, b ≠ a → H b = some o → H' b = some o) → H' a = some (exo a C (some dx)) → H' dx = some (exd dx (mkF ws)) → Q .non H'
/-- what is raised -/
def XR (C : Addr) (fs : List (Str × V)) (H : Hp) (E : XK) : Prop := ∀ dd H', Ex H H' → H' dd = some (.xd fs) → E (.ref C) (some dd) H'
theorem XR.mono {C : Addr} {fs : List (Str × V)} {H H1 : Hp} {E : XK} (e : Ex H H1) (h : XR C fs H E) : XR C fs H1 E := fun dd H' e' hd => h dd H' (e.trans e') hd
theorem x_mk {C : Addr} {mkF : List V → List (Str × V)} {n : Nat} {ta : TA} {σ : L2.St} {H : Hp} {vs : List V} {E : XK} (hA : EvA ta σ H vs) (hn : vs.length = n) (hz : n ≤ 1000) (k : XR C (mkF vs) H E) : tMkO C (spXI C mkF n) [] ta σ H E :=
  hA H (Ex.refl H) _ fun H1 e1 => ⟨by omega, fun a ha => ⟨a, vs ++ [], rfl, by rw [List.append_nil]; exact hn, upd_same, fun dx H' hdx hne hk h1 h2 => by
    rw [List.append_nil] at h2
    have hdx1 : H1 dx = none := by
      rw [upd_ne hne] at hdx
      exact hdx
    refine ⟨rfl, dx, _, h1, h2, hdx1, k dx _ (fun b o hb => ?_) upd_same⟩
    have hb1 := e1 _ _ hb
    have nb : b ≠ a := ne_of_none hb1 ha
    rw [upd_ne (ne_of_none hb1 hdx1), del_ne nb]
    exact hk b o nb (by rw [upd_ne nb]; exact hb1)⟩⟩
def F_Wrong : List V → List (Str × V)
  | [l, n] => [("number", n), ("line", l)]
  | _ => []
def F_Refused : List V → List (Str × V)
  | [n] => [("number", n)]
  | _ => []
section
variable {P : Program} {w : World} {K : PySem.W.Frag} {mg : Str → Option Value} {base : Heap} {d : Ads}
theorem sc_Wrong_init : FnScope ["self", "line", "number"] ["self", "line", "number"] (defScope s_Wrong_init) := ⟨rfl, rfl, rfl, by decide +kernel, rfl, by decide +kernel, by decide +kernel⟩
theorem ok_Wrong_init (T : Txt K mg d) : Ok P w K mg base CX0 1 d.m_Wrong_init ["self", "line", "number"] (spXI d.cWrong F_Wrong 2) := by
  obtain ⟨fd, F, b⟩ := T.fn_m_Wrong_init
  refine ⟨fd, F.ok sc_Wrong_init (fun vs H Q E h => ?_) (fun cdv A outer s H vs Q E hr h => ?_), b⟩
  · obtain ⟨a, ws, rfl, hl, _⟩ := h
    rw [List.length_cons, hl]
    rfl
  · obtain ⟨a, ws, rfl, hl, ha, k⟩ := h
    match ws, hl, k with
    | [l, n], _, k =>
      refine' ⟨_, pss_cons ?s1 (pss_cons ?s2 (pss_one ?s3)), ?_⟩
      case s1 => exact ps_expr (pe_veinit rfl T.b_ValueError T.veinit (pa_cons (pv 0) (pa_cons pe_str pa_nil)))
      case s2 => exact ps_ost (pv 0) (pv 1)
      case s3 => exact ps_ost (pv 0) (pv 2)
      refine ⟨_, rfl, a, d.cWrong, _, rfl, (by decide), T.x_Wrong, ha, ?_⟩
      refine ⟨_, rfl, _, rfl, a, d.cWrong, rfl, T.x_Wrong, T.na_Wrong_line, .inl ⟨ha, fun dx hdx hne => ?_⟩⟩
      refine ⟨_, rfl, _, rfl, a, d.cWrong, rfl, T.x_Wrong, T.na_Wrong_number, .inr ⟨dx, [("line", l)], upd_same, by rw [upd_ne hne]; exact upd_same, (by show 1 ≤ 900; decide), ?_⟩⟩
      refine k dx _ hdx hne (fun b o hb hbo => ?_) ?_ upd_same
      · rw [upd_ne (ne_of_none hbo hdx), upd_ne hb, upd_ne (ne_of_none hbo hdx)]
        exact hbo
      · rw [upd_ne (Ne.symm hne)]
        exact upd_same
theorem sc_Refused_init : FnScope ["self", "number"] ["self", "number"] (defScope s_Refused_init) := ⟨rfl, rfl, rfl, by decide +kernel, rfl, by decide +kernel, by decide +kernel⟩
theorem ok_Refused_init (T : Txt K mg d) : Ok P w K mg base CX0 1 d.m_Refused_init ["self", "number"] (spXI d.cRefused F_Refused 1) := by
  obtain ⟨fd, F, b⟩ := T.fn_m_Refused_init
  refine ⟨fd, F.ok sc_Refused_init (fun vs H Q E h => ?_) (fun cdv A outer s H vs Q E hr h => ?_), b⟩
  · obtain ⟨a, ws, rfl, hl, _⟩ := h
    rw [List.length_cons, hl]
    rfl
  · obtain ⟨a, ws, rfl, hl, ha, k⟩ := h
    match ws, hl, k with
    | [n], _, k =>
      refine' ⟨_, pss_cons ?s1 (pss_one ?s3), ?_⟩
      case s1 => exact ps_expr (pe_veinit rfl T.b_ValueError T.veinit (pa_cons (pv 0) (pa_cons pe_str pa_nil)))
      case s3 => exact ps_ost (pv 0) (pv 1)
      refine ⟨_, rfl, a, d.cRefused, _, rfl, (by decide), T.x_Refused, ha, ?_⟩
      refine ⟨_, rfl, _, rfl, a, d.cRefused, rfl, T.x_Refused, T.na_Refused_number, .inl ⟨ha, fun dx hdx hne => ?_⟩⟩
      refine k dx _ hdx hne (fun b o hb hbo => ?_) upd_same ?_
      · rw [upd_ne hb, upd_ne (ne_of_none hbo hdx)]
        exact hbo
      · rw [upd_ne hne]
        exact upd_same
/-! ### want -/
theorem sc_want : FnScope ["is_so", "number"] ["is_so", "number"] (defScope s_want) := ⟨rfl, rfl, rfl, by decide +kernel, rfl, by decide +kernel, by decide +kernel⟩
def spWant (d : Ads) : Sp := fun vs H Q E => ∃ (c : Bool) (n : Int), vs = [.bl c, .int n] ∧ (c = true → RetV .non H Q) ∧ (c = false → XR d.cRefused [("number", .int n)] H E)
theorem ok_want (T : Txt K mg d) : Ok P w K mg base (L2.CX P w) 3 d.f_want ["is_so", "number"] (spWant d) := by
  obtain ⟨fd, F, b⟩ := T.fn_want
  obtain ⟨fdR, GR, bR⟩ := ok_Refused_init (P := P) (w := w) (base := base) T
  refine ⟨fd, F.okX sc_want (fun vs H Q E h => ?_) (fun cdv A outer s H vs Q E hr h => ?_), b⟩
  · obtain ⟨c, n, rfl, _⟩ := h
    rfl
  · obtain ⟨c, n, rfl, k1, k2⟩ := h
    have hr2 : Room 2 _ := hr.mono (by decide)
    refine' ⟨_, pss_one (ps_if (pt_not (pt_val (pv 0))) (pss_one ?s1) pss_nil), ?_⟩
    case s1 => exact ps_raise rfl (takes_of rfl rfl rfl rfl) (pmk_oex T.x_Refused T.in_Refused T.ti_Refused GR hr2 bR .nil pass0 rfl T.g_Refused (pa_cons (pv 1) pa_nil))
    refine s_when (et_not (et_B (ev_var rfl))) (fun c' H1 e1 => ?_) (fun c' H1 e1 => ?_)
    · have hc : c = false := by simpa using c'
      exact x_mk (vs := [.int n]) (ea_cons (ev_var rfl) ea_nil) rfl (by decide) ((k2 hc).mono e1)
    · have hc : c = true := by simpa using c'
      exact k1 hc H1 e1
end
end G

namespace G
open PySem PySem.Spec PyProof.Rows L2 Evl
theorem rp_len (a : Nat) : ∀ l : List Nat, (rp a l).length ≤ l.length + 1 ∧ ∀ w ∈ rp a l, w.length ≤ l.length
  | [] => by simp [rp]
  | b :: l => by
    obtain ⟨h1, h2⟩ := rp_len a l
    unfold rp
    split
    · refine ⟨by simp; omega, fun w hw => ?_⟩
      rcases List.mem_cons.mp hw with e | e
      · rw [e]; simp
      · have := h2 w e
        simp; omega
    · split
      · refine ⟨by simp, fun w hw => ?_⟩
        rw [List.mem_singleton.mp hw]
        simp
      · rename_i x r e
        rw [e] at h1 h2
        refine ⟨by simp at h1 ⊢; omega, fun w hw => ?_⟩
        rcases List.mem_cons.mp hw with z | z
        · have := h2 x (List.mem_cons_self ..)
          rw [z]; simp; omega
        · have := h2 w (List.mem_cons_of_mem _ z)
          simp; omega
theorem parts_len (a : Nat) (l : List Nat) : (parts a l).length ≤ l.length + 1 ∧ ∀ w ∈ parts a l, w.length ≤ l.length := by
  rw [parts_rp]
  exact rp_len a l
theorem words_ok {l : List Nat} (h : l.length ≤ 2000) : WsOk (words l) := by
  obtain ⟨h1, h2⟩ := parts_len 32 l
  refine ⟨?_, fun w hw => ⟨words_ne hw, ?_⟩⟩
  · have : (words l).length ≤ (parts 32 l).length := List.length_filter_le _ _
    omega
  · have := h2 w (List.mem_filter.mp hw).1
    omega
section
variable {K : PySem.W.Frag} {σ : L2.St} {H H' : Hp} {ta tb te tl : TE} {t : TT} {a : Addr} {R R2 : V → Hp → Prop} {g : TG} {vs : List Nat}
theorem er_lcV (h : EvR tl σ H R) (hk : ∀ v H1, Ex H H1 → R v H1 → EvR (tLc (iList K (tC v)) g t te vs) σ H1 R2) : EvR (tLc (iList K tl) g t te vs) σ H R2 := fun H0 e Q q =>
  h H0 e _ fun v H1 e1 hr => hk v H1 (e.trans e1) hr H1 (Ex.refl H1) Q fun v2 H2 e2 h2 => q v2 H2 (e1.trans e2) h2
theorem er_lcU (h : EvR tl σ H R) (hk : ∀ v H1, Ex H H1 → R v H1 → EvR (tLc (iTup K (tC v)) g t te vs) σ H1 R2) : EvR (tLc (iTup K tl) g t te vs) σ H R2 := fun H0 e Q q =>
  h H0 e _ fun v H1 e1 hr => hk v H1 (e.trans e1) hr H1 (Ex.refl H1) Q fun v2 H2 e2 h2 => q v2 H2 (e1.trans e2) h2
theorem el_lcU {xs ys : List V} (h : EvU tl σ H xs) (hk : ∀ p H1, Ex H H1 → H1 p = some (.tup xs) → EvL (tLc (iTup K (tC (.ref p))) g t te vs) σ H1 ys) : EvL (tLc (iTup K tl) g t te vs) σ H ys := fun H0 e Q q =>
  h H0 e _ fun p H1 _ e1 hp => hk p H1 (e.trans e1) hp H1 (Ex.refl H1) Q fun p2 H2 hp2 e2 h2 => q p2 H2 (fresh_back e1 hp2) (e1.trans e2) h2
theorem ev_neW {ws : List (List Nat)} {xs : List V} (h : Ev ta σ H (.ref a)) (hx : H a = some (.lst xs)) (hl : LL H xs ws) : Ev (tOp (rNeD K) ta (tLst tNil)) σ H (.bl (!ws.isEmpty)) :=
  ev_cast (ev_opL h (el_lst ea_nil (by simp)) fun np H4 hnp e4 => rv_neD (da := .list (ws.map fun w => .list (encN w))) (db := .list []) (fun H5 e5 => ⟨.lst (SqL.of (e5 _ _ (e4 _ _ hx))) (dp_words (hl.mono (e4.trans e5))), .lst (SqL.of (e5 _ _ hnp)) .nil⟩) (shaped_words ws) (shaped_words [])) (by
    cases ws with
    | nil => simp [PyData.eqv, PyData.eqvAll]
    | cons x r => simp [PyData.eqv, PyData.eqvAll])
theorem ev_neL {w : List Nat} (h : Ev ta σ H (.ref a)) (hx : H a = some (.lst (nvs w))) : Ev (tOp (rNeD K) ta (tLst tNil)) σ H (.bl (!w.isEmpty)) :=
  ev_cast (ev_opL h (el_lst ea_nil (by simp)) fun np H4 hnp e4 => rv_neD (da := .list (encN w)) (db := .list (encN [])) (fun H5 e5 => ⟨.lst (SqL.of (e5 _ _ (e4 _ _ hx))) (dp_encN _), .lst (SqL.of (e5 _ _ hnp)) .nil⟩) (shaped_encN w) (shaped_encN [])) (by
    rw [PyData.eqv, eqv_encN]
    cases w with
    | nil => simp
    | cons x r => simp)
/-- [word for word in parted(row, 32) if word != []] -/
theorem er_wordsOf {j ra : Nat} {row : List Nat} {E : XK} (hr : Ev ta σ H (.ref ra)) (hb : Ev tb σ H (nv 32)) (hra : H ra = some (.lst (nvs row))) (hz : row.length ≤ 2000) (hw : ∀ x, wipe ((wipe σ [j]).set j (some x)) [j] = wipe σ [j]) (hs : ∀ x, ((wipe σ [j]).set j (some x))[j]? = some (some x)) :
    EvR (tLc (iList K (tCall (spParted K) [] E (tCons ta (tCons tb tNil)))) (gName j) (tTest (tOp (rNeD K) (tVar j) (tLst tNil))) (tVar j) [j]) σ H (PartsR H (words row)) := by
  refine er_lcV (R := PartsR H (parts 32 row)) (er_call (vs := [.ref ra, nv 32]) (dvs := []) (ea_cons hr (ea_cons hb ea_nil)) (SpParted.r (SqL.of hra) hz)) fun v H1 e1 hv => ?_
  obtain ⟨p, vs, rfl, hp0, hp, hl⟩ := hv
  obtain ⟨z1, z2, z3⟩ := paired_zip hl
  have hlen : (vs.zip (parts 32 row)).length ≤ 40000 := by
    have := (parts_len 32 row).1
    rw [List.length_zip]
    omega
  have L := el_cL (K := K) (σ := σ) (H := H1) (tl := tC (.ref p)) (t := tTest (tOp (rNeD K) (tVar j) (tLst tNil))) (te := tVar j) (j := j) (vs := [j]) (vs.zip (parts 32 row)) (·.1) (fun q => !q.2.isEmpty) (·.1) ev_c (SqL.of hp) z1 hlen hw (fun q hq H2 e2 => ?_) (fun q hq _ H2 e2 => ev_var (hs _))
  · intro H2 e2 Q q
    refine L H2 e2 Q fun p2 H3 hp2 e3 hp3 => q _ H3 e3 ⟨p2, _, rfl, fresh_back (e1.trans e2) hp2, hp3, ?_⟩
    unfold words
    have hl3 := hl.mono (e2.trans e3)
    have key : ∀ {xs : List V} {ws : List (List Nat)}, LF H H3 xs ws → LF H H3 (((xs.zip ws).filter fun q => !q.2.isEmpty).map (·.1)) (ws.filter fun w => !w.isEmpty) := by
      intro xs ws h
      induction h with
      | nil => exact .nil
      | @cons x w xs ws r _ ih =>
        rw [List.zip_cons_cons, List.filter_cons, List.filter_cons]
        by_cases hc : (!w.isEmpty) = true
        · rw [if_pos hc, if_pos hc, List.map_cons]
          exact .cons r ih
        · rw [if_neg hc, if_neg hc]
          exact ih
    exact key hl3
  · obtain ⟨b, h1, _, h2⟩ := z3 q hq
    rw [h1]
    exact et_test (ev_neL (ev_var (hs _)) (e2 _ _ h2))
end
section
variable {P : Program} {w : World} {K : PySem.W.Frag} {mg : Str → Option Value} {base : Heap} {d : Ads}
/-! ### read_works -/
theorem sc_read_works : FnScope ["text", "builder", "k", "row", "words", "fault", "word", "name"] ["text"] (defScope s_read_works) := ⟨rfl, rfl, rfl, by decide +kernel, rfl, by decide +kernel, by decide +kernel⟩
def spRead (K : PySem.W.Frag) (d : Ads) : Sp := fun vs H Q E => ∃ (a : Addr) (text : List Nat), vs = [.ref a] ∧ SqL K H a (nvs text) ∧ text.length ≤ 2000 ∧
  (∀ W, Mu14.read text = .ok W → RetR (WorksR d W) H Q) ∧ (∀ n k, Mu14.read text = .error (n, k) → XR d.cWrong [("number", nv k), ("line", nv n)] H E)
theorem ok_read_works (T : Txt K mg d) : Ok P w K mg base (L2.CX P w) 6 d.f_read_works ["text"] (spRead K d) := by
  obtain ⟨fd, F, b⟩ := T.fn_read_works
  obtain ⟨fdW, GW, bW⟩ := ok_Wrong_init (P := P) (w := w) (base := base) T
  obtain ⟨fdB, GB, bB⟩ := ok_Builder_init (P := P) (w := w) (base := base) T
  obtain ⟨fdP, GP, bP⟩ := ok_parted (P := P) (w := w) (base := base) T
  obtain ⟨fdF, GF, bF⟩ := ok_Builder_fault_of (P := P) (w := w) (base := base) T
  obtain ⟨fdT, GT, bT⟩ := ok_Builder_take (P := P) (w := w) (base := base) T
  obtain ⟨fdM, GM, bM⟩ := ok_Builder_made (P := P) (w := w) (base := base) T
  refine ⟨fd, F.okX sc_read_works (fun vs H Q E h => ?_) (fun cdv A outer s H vs Q E hr h => ?_), b⟩
  · obtain ⟨a, text, rfl, _⟩ := h
    rfl
  · obtain ⟨a, text, rfl, hx, hz, kO, kE⟩ := h
    have hr1 : Room 1 _ := hr.mono (by decide)
    have hr2 : Room 2 _ := hr.mono (by decide)
    have hr4 : Room 4 _ := hr.mono (by decide)
    have hu1 := hu_of hr
    have hu : (A.deeper (envOfC "read_works" (defScope s_read_works) s.heap.objs.size d.f_read_works cdv)).units + 64 < cLine := Nat.lt_of_succ_lt (room65 hr)
    refine' ⟨_, pss_cons ?s1 (pss_cons ?s2 (pss_cons (ps_if (pt_not (pt_val ?s3)) (pss_one ?s4) pss_nil) (pss_one (ps_ret ?s5)))), ?_⟩
    case s1 => exact ps_set (i := 1) sc_read_works.nd rfl (Or.inr rfl) (pe_make0 T.mk_Builder GB hr2 rfl T.g_Builder bB .nil pass0)
    case s2 =>
      refine' ps_for (passes_of rfl) rfl (pi_enum rfl T.b_enumerate (pa_cons (pe_call GP hr1 rfl T.g_parted T.k_parted bP .nil pass0 (pa_cons (pv 0) (pa_cons (pe_gi T.k_LINE_END rfl) pa_nil))) pa_nil)) (pg_tup rfl (pgs_cons (pg_name (i := 2) sc_read_works.nd rfl (Or.inl rfl)) (pgs_cons (pg_name (i := 3) sc_read_works.nd rfl (Or.inl rfl)) pgs_nil)))
        (pss_cons ?b1 (pss_one (ps_if (PW.pt (pw_and ?b2 (pw_and1 ?b3))) (pss_cons ?c1 (pss_cons (ps_if ?c2 (pss_one ?c3) pss_nil) (pss_one ?c4))) pss_nil)))
      case b1 =>
        refine' ps_setLc (i := 4) (own := [("word", 6)]) (g := gName 6) (tt := tTest (tOp (rNeD K) (tVar 6) (tLst tNil))) rfl sc_read_works.nd rfl rfl (sw_true rfl rfl rfl (by decide +kernel)) (pi_list (pe_call GP hr1 rfl T.g_parted T.k_parted bP .nil pass0 (pa_cons (pv 3) (pa_cons (pe_gi T.k_BLANK rfl) pa_nil)))) (blkOk_by (own := [("word", 6)]) (N := ["text", "builder", "k", "row", "words", "fault", "word", "name"]) (sc := defScope s_read_works) (by decide +kernel))
          (fun _ _ _ _ _ => pg_name (i := 6) sc_read_works.nd rfl (Or.inl rfl)) (fun _ _ _ _ _ => pts_one (by exact (pt_cmpR (op_neD hu) (pv 6) (pe_lst pa_nil) (nomark _)))) (fun _ _ _ _ _ => pv 6)
      case b2 => exact pt_cmpR (op_neD hu) (pv 4) (pe_lst pa_nil) (nomark _)
      case b3 => exact pt_cmpR op_ne (pe_ix ix_list (pv 3) pe_int (fun _ _ => rfl)) (pe_gi T.k_MARK rfl) (nomark _)
      case c1 => exact ps_set (i := 5) sc_read_works.nd rfl (Or.inl rfl) (pe_meth (pv 1) T.cl_Builder T.me_Builder_fault_of GF hr4 bF .nil pass0 (pa_cons (pv 4) pa_nil))
      case c2 => exact pt_cmpR op_ne (pv 5) pe_int (nomark _)
      case c3 => exact ps_raise rfl (takes_of rfl rfl rfl rfl) (pmk_oex T.x_Wrong T.in_Wrong T.ti_Wrong GW hr2 bW .nil pass0 rfl T.g_Wrong (pa_cons (pe_op op_add (pv 2) pe_int) (pa_cons (pv 5) pa_nil)))
      case c4 => exact ps_expr (pe_meth (pv 1) T.cl_Builder T.me_Builder_take GT hr4 bT .nil pass0 (pa_cons (pv 4) pa_nil))
    case s3 =>
      refine' pe_callB (cr_all rfl) (by rfl) T.b_all boot_all (pa_cons (pe_lc (own := [("name", 7)]) (g := gName 7) (te := tDIn (tVar 7) (tFld K (tVar 1) "once")) rfl sc_read_works.nd (pi_tup (pe_tup (pa_cons (pe_gs T.k_HOLDER rfl) (pa_cons (pe_gs T.k_RETORTS rfl) (pa_cons (pe_gs T.k_CHARGE rfl) pa_nil))))) (blkOk_by (own := [("name", 7)]) (N := ["text", "builder", "k", "row", "words", "fault", "word", "name"]) (sc := defScope s_read_works) (by decide +kernel))
        (fun _ _ _ _ _ => pg_name (i := 7) sc_read_works.nd rfl (Or.inl rfl)) (fun _ _ _ _ _ => pts_nil) (fun _ _ _ _ _ => by exact (pe_cmp (pc_din hu1 (pv 7) (pe_fld (pv 1) rfl)) rfl))) pa_nil)
    case s4 => exact ps_raise rfl (takes_of rfl rfl rfl rfl) (pmk_oex T.x_Wrong T.in_Wrong T.ti_Wrong GW hr2 bW .nil pass0 rfl T.g_Wrong (pa_cons pe_int (pa_cons (pe_gi T.k_LACKING rfl) pa_nil)))
    case s5 => exact pe_meth0 (pv 1) T.cl_Builder T.me_Builder_made GM hr4 bM .nil pass0
    have h0 : rd {} 1 (parts 10 text) = Mu14.read text := (read_is text).symm
    obtain ⟨pl1, pl2⟩ := parts_len 10 text
    -- builder = Builder()
    intro x dx nx nd ne
    refine ⟨x, dx, rfl, upd_same, fun H1 dd uu kp hdd huu hB1 => ⟨rfl, ?_⟩⟩
    have fresh : ∀ {y : Addr}, upd (upd H dx (.own x)) x (.ins d.cBuilder dx []) y = none → H y = none := fun {y} hy => by
      have hyx : y ≠ x := fun z => by rw [z, upd_same] at hy; cases hy
      rw [upd_ne hyx] at hy
      have hyd : y ≠ dx := fun z => by rw [z, upd_same] at hy; cases hy
      rw [upd_ne hyd] at hy
      exact hy
    have hddH := fresh hdd
    have huuH := fresh huu
    have e1 : Ex H H1 := fun y o hy => kp y o (by rw [upd_ne (ne_of_none hy nx), upd_ne (ne_of_none hy nd)]; exact hy) (ne_of_none hy nx)
    -- the rows
    refine (er_call (tA := tCons (tVar 0) (tCons (tC (.int 10)) tNil)) (vs := [.ref a, nv 10]) (dvs := []) (ea_cons (ev_var rfl) (ea_cons ev_c0 ea_nil)) (SpParted.r (ex_l e1 hx) hz)) H1 (Ex.refl H1) _ fun v H2 e2 hv => ?_
    obtain ⟨rp, rvs, rfl, hrp0, hrp, hrl⟩ := hv
    have hB2 := hB1.mono e2
    obtain ⟨bx, bk, bu, hb1, hb2, _, _, hb5, _⟩ := hB1.ex
    have hlen : rvs.length = (parts 10 text).length := Paired.length hrl
    have off : ∀ {y : Addr}, H1 y = none → y ≠ dd ∧ y ≠ uu := fun {y} hy => ⟨fun z => (by rw [z, hb2] at hy; cases hy), fun z => (by rw [z, hb5] at hy; cases hy)⟩
    refine ⟨rp, rvs, rfl, SqL.of hrp, for_it walk_enum (fun i σ H' => ∃ (o2 o3 o4 o5 : Option V) (W : Mu14.Works) (m : Nat), σ = [some (.ref a), some (.ref x), o2, o3, o4, o5, none, none] ∧ (∀ y o, H2 y = some o → y ≠ dd → y ≠ uu → H' y = some o) ∧ BuildAt d H' x dd uu m W ∧ m ≤ i ∧ WOk W ∧ rd {} 1 (parts 10 text) = rd W (i + 1) ((parts 10 text).drop i))
      ⟨none, none, none, none, {}, 0, rfl, fun _ _ h _ _ => h, hB2, Nat.le_refl _, wok0, rfl⟩ (fun i σ H' _ ⟨_, _, _, _, _, _, _, fr, _⟩ => SqL.of (fr _ _ hrp (off hrp0).1 (off hrp0).2)) ?_ ?_⟩
    · rintro i y σ' H3 H4 hi ⟨o2, o3, o4, o5, W, m, rfl, fr, hB, hm, hW, hrd⟩ ⟨T0, kx, ry, rfl, hT, rfl, hkx, hry⟩
      cases hkx
      have hi' : i < (parts 10 text).length := by omega
      obtain ⟨row, hrow⟩ : ∃ row, (parts 10 text)[i]? = some row := ⟨_, List.getElem?_eq_getElem hi'⟩
      have hdrop : (parts 10 text).drop i = row :: (parts 10 text).drop (i + 1) := by
        rw [List.drop_eq_getElem_cons hi']
        rw [List.getElem?_eq_getElem hi'] at hrow
        rw [Option.some.inj hrow]
      have hrz : row.length ≤ 2000 := by
        have := pl2 row (List.mem_of_getElem? hrow)
        omega
      obtain ⟨z1, z2, z3⟩ := paired_zip hrl
      have hzi : (rvs.zip (parts 10 text))[i]? = some (ry, row) := by
        rw [List.getElem?_zip_eq_some]
        exact ⟨hry, hrow⟩
      obtain ⟨ra, hra1, hra0, hra⟩ := z3 _ (List.mem_of_getElem? hzi)
      have hra1 : ry = .ref ra := hra1
      subst hra1
      have e34 : Ex H3 (upd H3 T0 (.tup [.int (i : Nat), .ref ra])) := Ex.new hT
      have hra4 : upd H3 T0 (.tup [.int (i : Nat), .ref ra]) ra = some (.lst (nvs row)) := e34 _ _ (fr _ _ hra (off hra0).1 (off hra0).2)
      refine ⟨T0, _, rfl, SqT.of upd_same, rfl, ⟨_, _, rfl, _, _, rfl, rfl, ?_⟩⟩
      refine q_asgR (er_wordsOf (ra := ra) (row := row) (ev_var rfl) ev_c0 hra4 hrz (fun x => rfl) (fun x => rfl)) ?_
      rintro v H5 e5 ⟨wp, xs, rfl, hwp0, hwp, hwl⟩
      have e35 := e34.trans e5
      have hB5 := hB.mono e35
      have fr5 : ∀ y o, H2 y = some o → y ≠ dd → y ≠ uu → H5 y = some o := fun y o h1 h2 h3 => e35 _ _ (fr y o h1 h2 h3)
      obtain ⟨bx5, bk5, bu5, hb51, hb52, _, _, hb55, _⟩ := hB5.ex
      have hok := words_ok hrz
      refine s_when (b := !((words row).isEmpty) && !(decide (row.headD 0 = 35))) (et_and (et_test (ev_neW (ev_var rfl) hwp hwl.ll)) fun hne => et_test (ev_neN (j := 35) (ev_op (ev_var rfl) ev_c (rv_ixL (SqL.of (e5 _ _ hra4)) (atI_nat (j := 0) ?_))) ev_c)) (fun c H6 e6 => ?_) (fun c H6 e6 => ?_)
      · have : row ≠ [] := fun z => by rw [z, words_nil] at hne; cases hne
        cases row with
        | nil => exact absurd rfl this
        | cons y r => rfl
      · have c1 : words row ≠ [] := fun z => by rw [z] at c; cases c
        have c2 : ¬ row.headD 0 = 35 := fun z => by rw [z] at c; simp at c
        have c3 : ¬ (words row = [] ∨ row.headD 0 = 35) := fun z => z.elim c1 c2
        refine q_asg (ev_meth (vs := [.ref wp]) (dvs := []) (ev_var rfl) (e6 _ _ hb51) (lk_Builder_no_fault_of _ _) (ea_cons (ev_var rfl) ea_nil) (SpFault.v (hB5.mono e6) hW.ulen (e6 _ _ hwp) (hwl.ll.mono e6) hok c1)) fun H7 e7 => ?_
        have e57 := e6.trans e7
        refine q_when (et_test (ev_neN (j := 0) (ev_var rfl) ev_c)) (fun cf H8 e8 => ?_) (fun cf H8 e8 => ?_)
        · have hf : ¬ fault W (words row) = 0 := fun z => by rw [z] at cf; simp at cf
          have hE : Mu14.read text = .error (i + 1, fault W (words row)) := by
            rw [← h0, hrd, hdrop]
            unfold rd
            rw [if_neg c3, if_neg hf]
          refine x_mk (vs := [nv (i + 1), nv (fault W (words row))]) (ea_cons (ev_addN (i := i) (j := 1) (ev_var rfl) ev_c) (ea_cons (ev_var rfl) ea_nil)) rfl (by decide) ((kE _ _ hE).mono fun y o hy => ?_)
          exact (e57.trans e8) _ _ (fr5 _ _ (e2 _ _ (e1 _ _ hy)) (ne_of_none hy hddH) (ne_of_none hy huuH))
        · have hf : fault W (words row) = 0 := by simpa using cf
          have e58 := e57.trans e8
          have hnu : ∀ v ∈ xs, v ≠ .ref uu := fun v hv z => by
            obtain ⟨y1, y2, y3⟩ := paired_zip hwl
            rw [y1] at hv
            obtain ⟨q, hq, rfl⟩ := List.mem_map.mp hv
            obtain ⟨aa, q1, q2, _⟩ := y3 q hq
            rw [q1] at z
            cases z
            obtain ⟨_, _, bu3, _, _, _, _, hb35, _⟩ := hB.ex
            have := e34 _ _ hb35
            rw [q2] at this
            cases this
          refine ⟨_, rfl, x, bx5, _, rfl, e58 _ _ hb51, lk_Builder_no_take _ _, _, rfl, x, dd, uu, wp, m, W, xs, words row, rfl, hB5.mono e58, by omega, hW.ulen, e58 _ _ hwp, hwl.ll.mono e58, hnu, hok, hf, fun H9 hB9 fr9 => ?_⟩
          refine ⟨_, _, _, _, takeW W (words row), m + 1, rfl, fun y o h1 h2 h3 => fr9 y o (e58 _ _ (fr5 y o h1 h2 h3)) h2 h3, hB9, by omega, wok_take hW hf, ?_⟩
          rw [hrd, hdrop]
          conv => lhs; unfold rd
          rw [if_neg c3, if_pos hf]
      · have c3 : words row = [] ∨ row.headD 0 = 35 := by
          simp only [Bool.and_eq_false_iff, Bool.not_eq_false', List.isEmpty_iff, decide_eq_true_eq] at c
          exact c
        refine ⟨_, _, _, _, W, m, rfl, fun y o h1 h2 h3 => e6 _ _ (fr5 y o h1 h2 h3), hB5.mono e6, by omega, hW, ?_⟩
        rw [hrd, hdrop]
        conv => lhs; unfold rd
        rw [if_pos c3]
    · rintro σ' H3 ⟨o2, o3, o4, o5, W, m, rfl, fr, hB, hm, hW, hrd⟩
      have hnil : (parts 10 text).drop rvs.length = [] := by
        rw [hlen]
        exact List.drop_length
      rw [hnil, h0] at hrd
      unfold rd at hrd
      obtain ⟨bx3, bk3, bu3, hb31, hb32, hb33, hb34, hb35, _⟩ := hB.ex
      have eH : Ex H H3 := fun y o hy => fr _ _ (e2 _ _ (e1 _ _ hy)) (ne_of_none hy hddH) (ne_of_none hy huuH)
      have allE : Ev (tCB (rAll K) (tCons (tLc (iTup K (tTup (tCons (tC (.str "holder")) (tCons (tC (.str "retorts")) (tCons (tC (.str "charge")) tNil))))) (gName 7) tYes (tDIn (tVar 7) (tFld K (tVar 1) "once")) [7]) tNil)) [some (V.ref a), some (V.ref x), o2, o3, o4, o5, none, none] H3 (.bl (([Kw.holder, .retorts, .charge].map fun k => (onceOf W k).isSome).all id)) := by
        refine ev_all (el_cast (el_lcU (xs := [Kw.holder, .retorts, .charge].map fun k => V.str (kwS k)) (ys := [Kw.holder, .retorts, .charge].map fun k => V.bl (onceOf W k).isSome) (eu_tup (ea_cons ev_c (ea_cons ev_c (ea_cons ev_c ea_nil))) (by decide)) fun p H4 e4 hp => ?_) (by rw [List.map_map]; rfl))
        refine el_cast (el_cT [Kw.holder, .retorts, .charge] (fun k => V.str (kwS k)) (fun _ => true) (fun k => V.bl (onceOf W k).isSome) ev_c (SqT.of hp) rfl (by decide) (fun x => rfl) (fun _ _ _ _ => et_yes) (fun k hk _ H5 e5 => ?_)) (by rw [filt_true])
        have hku : k ≠ .use := by
          intro z
          rw [z] at hk
          simp at hk
        intro H6 e6 Q6 q6
        have e36 := e4.trans (e5.trans e6)
        refine ⟨_, rfl, _, rfl, x, _, bx3, _, _, rfl, e36 _ _ hb31, T.cl_Builder, T.na_Builder_once, lk_Builder_once _ _, dd, _, rfl, DGet.k (k := ky k) (e36 _ _ hb32), ?_⟩
        rw [once_some (hb34 k hku)]
        exact q6 H6 (Ex.refl H6)
      have cc : ([Kw.holder, .retorts, .charge].map fun k => (onceOf W k).isSome).all id = ((onceOf W .holder).isSome && ((onceOf W .retorts).isSome && (onceOf W .charge).isSome)) := by
        show ((onceOf W .holder).isSome && ((onceOf W .retorts).isSome && ((onceOf W .charge).isSome && true))) = _
        rw [Bool.and_true]
      rw [cc] at allE
      dsimp only
      refine q_when (et_not (et_B allE)) (fun c H4 e4 => ?_) (fun c H4 e4 => ?_)
      · have c' : ¬ ((onceOf W .holder).isSome && ((onceOf W .retorts).isSome && (onceOf W .charge).isSome)) = true := fun z => by
          rw [z] at c
          cases c
        rw [if_neg c'] at hrd
        exact x_mk (vs := [nv 0, nv 7]) (ea_cons ev_c (ea_cons ev_c ea_nil)) rfl (by decide) ((kE _ _ hrd).mono (eH.trans e4))
      · have c' : ((onceOf W .holder).isSome && ((onceOf W .retorts).isSome && (onceOf W .charge).isSome)) = true := by simpa only [Bool.not_eq_false'] using c
        rw [if_pos c'] at hrd
        refine ⟨_, rfl, x, bx3, _, rfl, e4 _ _ hb31, lk_Builder_no_made _ _, x, dd, uu, m, W, rfl, hB.mono e4, read_whole hrd, fun v H5 e5 hv => kO W hrd v H5 ((eH.trans e4).trans e5) hv⟩
end
end G

namespace G
open PySem PySem.Spec PyProof.Rows L2 Evl
/-! ### the desk in the heap -/
def totsOf (s : Mu14.State) : List Nat := [s.made, s.burnt, s.leaked, s.lost, s.short, s.charges]
def DeskAt (d : Ads) (H : Hp) (b : Addr) : Option Mu14.State → Prop
  | none => ∃ dx m t, H b = some (.ins d.cDesk dx (F_Desk .non m t))
  | some s => ∃ dx wa ma ta, H b = some (.ins d.cDesk dx (F_Desk (.ref wa) (.ref ma) (.ref ta))) ∧ WorksAt d H wa s.works ∧ MomentAt d H ma s.hour s.level s.busy ∧ H ta = some (.lst (nvs (totsOf s))) ∧ SOk s
theorem DeskAt.mono {d : Ads} {H H' : Hp} {b : Addr} (e : Ex H H') : ∀ {o : Option Mu14.State}, DeskAt d H b o → DeskAt d H' b o
  | none, ⟨dx, m, t, h⟩ => ⟨dx, m, t, e _ _ h⟩
  | some s, ⟨dx, wa, ma, ta, h1, h2, h3, h4, h5⟩ => ⟨dx, wa, ma, ta, e _ _ h1, h2.mono e, h3.mono e, e _ _ h4, h5⟩
/-- all but the desk stands -/
def Off (b : Addr) (H H' : Hp) : Prop := ∀ x o, H x = some o → x ≠ b → H' x = some o
theorem Off.of {b : Addr} {H H' : Hp} (e : Ex H H') : Off b H H' := fun x o h _ => e x o h
theorem Off.trans {b : Addr} {H H1 H2 : Hp} (h : Off b H H1) (k : Off b H1 H2) : Off b H H2 := fun x o hx hn => k x o (h x o hx hn) hn
theorem Off.ex {b : Addr} {H H1 H2 : Hp} (h : Off b H H1) (k : Ex H1 H2) : Off b H H2 := h.trans (Off.of k)
theorem Off.upd {b : Addr} {H : Hp} {o : HO} : Off b H (L2.upd H b o) := fun x u hx hn => by
  rw [upd_ne hn]
  exact hx
def IsDesk (H : Hp) (b : Addr) : Prop := ∃ c dx x y z, H b = some (.ins c dx (F_Desk x y z))
theorem ne_desk {H : Hp} {b a c' dx' : Addr} {fs : List (Str × V)} (hb : IsDesk H b) (ha : H a = some (.ins c' dx' fs)) (hf : fs.head?.map (·.1) ≠ some "works") : a ≠ b := fun e => by
  obtain ⟨c, dx, x, y, z, hb⟩ := hb
  rw [e, hb] at ha
  cases ha
  exact hf rfl
theorem ne_deskT {H : Hp} {b a : Addr} {xs : List V} (hb : IsDesk H b) (ha : H a = some (.tup xs)) : a ≠ b := fun e => by
  obtain ⟨c, dx, x, y, z, hb⟩ := hb
  rw [e, hb] at ha
  cases ha
theorem ne_deskL {H : Hp} {b a : Addr} {xs : List V} (hb : IsDesk H b) (ha : H a = some (.lst xs)) : a ≠ b := fun e => by
  obtain ⟨c, dx, x, y, z, hb⟩ := hb
  rw [e, hb] at ha
  cases ha
theorem hd_works : ("holds" : Str) ≠ "works" := by decide +kernel
theorem hd_use : ("name" : Str) ≠ "works" := by decide +kernel
theorem hd_moment : ("hours" : Str) ≠ "works" := by decide +kernel
theorem hd_told : ("moment" : Str) ≠ "works" := by decide +kernel
theorem WorksAt.off {d : Ads} {H H' : Hp} {b a : Addr} {W : Mu14.Works} (hb : IsDesk H b) (f : Off b H H') : WorksAt d H a W → WorksAt d H' a W := fun ⟨dx, c, u, uvs, h1, h2, h3, h4⟩ =>
  ⟨dx, c, u, uvs, f _ _ h1 (ne_desk hb h1 fun z => hd_works (Option.some.inj z)), f _ _ h2 (ne_deskT hb h2), f _ _ h3 (ne_deskL hb h3), Paired.mapP h4 fun _ _ ⟨x, dx', nm, q1, q2, q3⟩ => ⟨x, dx', nm, q1, f _ _ q2 (ne_desk hb q2 fun z => hd_use (Option.some.inj z)), f _ _ q3 (ne_deskL hb q3)⟩⟩
theorem MomentAt.off {d : Ads} {H H' : Hp} {b a : Addr} {p q : Nat} {l : List Nat} (hb : IsDesk H b) (f : Off b H H') : MomentAt d H a p q l → MomentAt d H' a p q l := fun ⟨dx, c, h1, h2⟩ =>
  ⟨dx, c, f _ _ h1 (ne_desk hb h1 fun z => hd_moment (Option.some.inj z)), f _ _ h2 (ne_deskT hb h2)⟩
theorem ToldAt.off {d : Ads} {H H' : Hp} {b a : Addr} {t : Tld} (hb : IsDesk H b) (f : Off b H H') : ToldAt d H a t → ToldAt d H' a t := fun ⟨dx, m, h1, h2⟩ =>
  ⟨dx, m, f _ _ h1 (ne_desk hb h1 fun z => hd_told (Option.some.inj z)), h2.off hb f⟩
theorem DeskAt.is {d : Ads} {H : Hp} {b : Addr} : ∀ {o : Option Mu14.State}, DeskAt d H b o → IsDesk H b
  | none, ⟨_, _, _, h⟩ => ⟨_, _, _, _, _, h⟩
  | some _, ⟨_, _, _, _, h, _⟩ => ⟨_, _, _, _, _, h⟩
theorem if_true_of {c : Bool} {A B : Prop} (hc : c = true) (h : A) : if c = true then A else B := by
  rw [if_pos hc]
  exact h
/-- an answer: a list of numbers -/
def AnsR (l : List Int) : V → Hp → Prop := fun v H' => ∃ p, v = .ref p ∧ H' p = some (.lst (l.map V.int))
theorem nums_map (l : List Nat) : (Mu14.nums l).map V.int = nvs l := by
  unfold Mu14.nums
  rw [List.map_map]
  rfl
section
variable {P : Program} {w : World} {K : PySem.W.Frag} {mg : Str → Option Value} {base : Heap} {d : Ads}
/-- self.f = e -/
theorem q_fldL {σ : L2.St} {H : Hp} {te : TE} {tz : TS} {D : Ends} {i : Nat} {b C dx : Addr} {fs : List (Str × V)} {f : Str} {xs : List V} (h : EvL te σ H xs) (hv : σ[i]? = some (some (.ref b))) (hb : H b = some (.ins C dx fs)) (c : Cls K C) (n : NoAttr K C f) (hz : fs.length < 1000)
    (k : ∀ p H1, H p = none → Ex H H1 → H1 p = some (.lst xs) → tz D σ (upd H1 b (.ins C dx (putF f (.ref p) fs)))) : tSeq (sFld K (tVar i) te f) tz D σ H := h H (Ex.refl H) _ fun p H1 hp e h1 => ⟨_, hv, b, C, dx, fs, rfl, e _ _ hb, c, n, hz, k p H1 hp e h1⟩
theorem q_fldR {σ : L2.St} {H : Hp} {te : TE} {tz : TS} {D : Ends} {i : Nat} {b C dx : Addr} {fs : List (Str × V)} {f : Str} {R : V → Hp → Prop} (h : EvR te σ H R) (hv : σ[i]? = some (some (.ref b))) (hb : H b = some (.ins C dx fs)) (c : Cls K C) (n : NoAttr K C f) (hz : fs.length < 1000)
    (k : ∀ v H1, Ex H H1 → R v H1 → tz D σ (upd H1 b (.ins C dx (putF f v fs)))) : tSeq (sFld K (tVar i) te f) tz D σ H := h H (Ex.refl H) _ fun v H1 e h1 => ⟨_, hv, b, C, dx, fs, rfl, e _ _ hb, c, n, hz, k v H1 e h1⟩
/-! ### Desk.__init__ -/
theorem sc_Desk_init : FnScope ["self"] ["self"] (defScope s_Desk_init) := ⟨rfl, rfl, rfl, by decide +kernel, rfl, by decide +kernel, by decide +kernel⟩
def spDInit (d : Ads) : Sp := fun vs H Q _ => ∃ (p dx : Addr), vs = [.ref p] ∧ H p = some (.ins d.cDesk dx []) ∧ ∀ H', Off p H H' → DeskAt d H' p none → Q .non H'
theorem ok_Desk_init (T : Txt K mg d) : Ok P w K mg base CX0 1 d.m_Desk_init ["self"] (spDInit d) := by
  obtain ⟨fd, F, b⟩ := T.fn_m_Desk_init
  refine ⟨fd, F.ok sc_Desk_init (fun vs H Q E h => ?_) (fun cdv A outer s H vs Q E hr h => ?_), b⟩
  · obtain ⟨p, dx, rfl, _⟩ := h
    rfl
  · obtain ⟨p, dx, rfl, hp, k⟩ := h
    refine' ⟨_, pss_cons ?s1 (pss_cons ?s2 (pss_one ?s3)), ?_⟩
    case s1 => exact ps_fld (pv 0) pe_non rfl
    case s2 => exact ps_fld (pv 0) pe_non rfl
    case s3 => exact ps_fld (pv 0) (pe_lst (pa_cons pe_int (pa_cons pe_int (pa_cons pe_int (pa_cons pe_int (pa_cons pe_int (pa_cons pe_int pa_nil))))))) rfl
    refine ⟨_, rfl, p, d.cDesk, dx, [], rfl, hp, T.cl_Desk, T.na_Desk_works, (by show 0 < 1000; decide), ?_⟩
    refine ⟨_, rfl, p, d.cDesk, dx, _, rfl, upd_same, T.cl_Desk, T.na_Desk_moment, (by show 1 < 1000; decide), ?_⟩
    refine ⟨(by show 6 ≤ sizeLine; decide), fun l hl => ?_⟩
    have hlp : p ≠ l := fun z => by rw [← z, upd_same] at hl; cases hl
    refine ⟨_, rfl, p, d.cDesk, dx, _, rfl, by rw [upd_ne hlp]; exact upd_same, T.cl_Desk, T.na_Desk_totals, (by show 2 < 1000; decide), ?_⟩
    have hl0 : H l = none := by
      rw [upd_ne (Ne.symm hlp), upd_ne (Ne.symm hlp)] at hl
      exact hl
    refine k _ (fun x o hx hn => ?_) ⟨dx, .non, .ref l, ?_⟩
    · rw [upd_ne hn, upd_ne (ne_of_none hx hl0), upd_ne hn, upd_ne hn]
      exact hx
    · rw [upd_same, new_Desk]
/-! ### Desk.passes -/
theorem sc_Desk_passes : FnScope ["self", "many", "told", "more", "one", "other"] ["self", "many"] (defScope s_Desk_passes) := ⟨rfl, rfl, rfl, by decide +kernel, rfl, by decide +kernel, by decide +kernel⟩
def spPasses (d : Ads) : Sp := fun vs H Q _ => ∃ (b : Addr) (s : Mu14.State) (k : Nat), vs = [.ref b, nv k] ∧ DeskAt d H b (some s) ∧ k ≤ Mu14.idle s.busy ∧
  ∀ v H', Off b H H' → DeskAt d H' b (some (Mu14.hour s k)) → ToldR d (hourT s.works s.hour s.level s.busy k) v H' → Q v H'
/-- [one + other for one, other in zip(a, b)] -/
theorem el_zipAdd {σ : L2.St} {H : Hp} {tA : TA} {a b : Addr} {i j : Nat} {xs ys : List Nat} (hA : EvA tA σ H [.ref a, .ref b]) (ha : H a = some (.lst (nvs xs))) (hb : H b = some (.lst (nvs ys))) (hz : xs.length ≤ 40000)
    (hw : ∀ x y, wipe (((wipe σ [i, j]).set i (some x)).set j (some y)) [i, j] = wipe σ [i, j]) (h1 : ∀ x y, (((wipe σ [i, j]).set i (some x)).set j (some y))[i]? = some (some x)) (h2 : ∀ x y, (((wipe σ [i, j]).set i (some x)).set j (some y))[j]? = some (some y)) :
    EvL (tLc (iZip K tA) (gTup K 2 (gCons (gName i) (gCons (gName j) gNil))) tYes (tOp (rI0 fun i j => .int (i + j)) (tVar i) (tVar j)) [i, j]) σ H (nvs (List.zipWith (· + ·) xs ys)) := fun H0 e Q q =>
  hA H0 e _ fun H1 e1 => ⟨a, b, nvs xs, nvs ys, rfl, SqL.of (e1 _ _ (e _ _ ha)), SqL.of (e1 _ _ (e _ _ hb)), fun D hD =>
    lc_it (walk_zip (n := min (nvs xs).length (nvs ys).length) rfl) (fun n H' => Ex H1 H' ∧ H' D = some (.lst (nvs ((List.zipWith (· + ·) xs ys).take n)))) ⟨Ex.new hD, upd_same⟩
      (fun i H' _ p => ⟨SqL.of (p.1 _ _ (e1 _ _ (e _ _ ha))), SqL.of (p.1 _ _ (e1 _ _ (e _ _ hb)))⟩) (fun n v H' H'' hn p y => by
        obtain ⟨T0, x, y, rfl, hT, rfl, hx, hy⟩ := y
        obtain ⟨x, hx', rfl⟩ := nvs_at hx
        obtain ⟨y, hy', rfl⟩ := nvs_at hy
        have e2 : Ex H' (upd H' T0 (.tup [nv x, nv y])) := Ex.new hT
        refine ⟨T0, _, rfl, SqT.of upd_same, rfl, _, _, rfl, _, _, rfl, rfl, hw _ _, ?_⟩
        unfold tYes
        dsimp only
        rw [if_pos rfl]
        refine ev_addN (i := x) (j := y) (ev_var (h1 _ _)) (ev_var (h2 _ _)) _ (Ex.refl _) _ fun H3 e3 => ?_
        refine ⟨_, (e2.trans e3) _ _ p.2, ?_, ?_, ?_⟩
        · refine sz_lt ?_
          rw [nvs_len, List.length_take, List.length_zipWith]
          omega
        · exact fun z o hz' => by
            rw [upd_ne (ne_of_none hz' hD)]
            exact (p.1.trans (e2.trans e3)) _ _ hz'
        · rw [upd_same]
          have hzw : (List.zipWith (· + ·) xs ys)[n]? = some (x + y) := by
            rw [List.getElem?_zipWith, hx', hy']
          rw [take_more hzw]
          unfold nvs
          rw [List.map_append]
          rfl)
      (fun H' p => q D H' (fresh_back e1 hD) (e1.trans p.1) (by
        have := p.2
        rw [List.take_of_length_le (by rw [List.length_zipWith, nvs_len, nvs_len]; exact Nat.le_refl _)] at this
        exact this))⟩
theorem ok_Desk_passes (T : Txt K mg d) : Ok P w K mg base CX0 8 d.m_Desk_passes ["self", "many"] (spPasses d) := by
  obtain ⟨fd, F, b⟩ := T.fn_m_Desk_passes
  obtain ⟨fdH, GH, bH⟩ := ok_hour_passed (P := P) (w := w) (base := base) T
  refine ⟨fd, F.ok sc_Desk_passes (fun vs H Q E h => ?_) (fun cdv A outer s H vs Q E hr h => ?_), b⟩
  · obtain ⟨b, s, k, rfl, _⟩ := h
    rfl
  · obtain ⟨b, st, k, rfl, ⟨dx, wa, ma, ta, hb, hW, hM, hta, hS⟩, hk, kk⟩ := h
    have hr6 : Room 6 _ := hr.mono (by decide)
    refine' ⟨_, pss_cons ?s1 (pss_cons ?s2 (pss_cons ?s3 (pss_cons ?s4 (pss_one ?s5)))), ?_⟩
    case s1 => exact ps_set (i := 2) sc_Desk_passes.nd rfl (Or.inl rfl) (pe_call GH hr6 rfl T.g_hour_passed T.k_hour_passed bH .nil pass0 (pa_cons (pe_fld (pv 0) rfl) (pa_cons (pe_fld (pv 0) rfl) (pa_cons (pv 1) pa_nil))))
    case s2 => exact ps_fld (pv 0) (pe_fld (pv 2) rfl) rfl
    case s3 => exact ps_set (i := 3) sc_Desk_passes.nd rfl (Or.inl rfl) (pe_lst (pa_cons (pe_fld (pv 2) rfl) (pa_cons (pe_fld (pv 2) rfl) (pa_cons (pe_fld (pv 2) rfl) (pa_cons (pe_fld (pv 2) rfl) (pa_cons (pe_fld (pv 2) rfl) (pa_cons (pv 1) pa_nil)))))))
    case s4 =>
      refine' ps_fld (pv 0) ?c1 rfl
      case c1 =>
        refine' pe_lc (own := [("one", 4), ("other", 5)]) (g := gTup K 2 (gCons (gName 4) (gCons (gName 5) gNil))) rfl sc_Desk_passes.nd (pi_zip rfl T.b_zip (pa_cons (pe_fld (pv 0) rfl) (pa_cons (pv 3) pa_nil))) (blkOk_by (own := [("one", 4), ("other", 5)]) (N := ["self", "many", "told", "more", "one", "other"]) (sc := defScope s_Desk_passes) (by decide +kernel))
          (fun _ _ _ _ _ => pg_tup rfl (pgs_cons (pg_name (i := 4) sc_Desk_passes.nd rfl (Or.inl rfl)) (pgs_cons (pg_name (i := 5) sc_Desk_passes.nd rfl (Or.inl rfl)) pgs_nil))) (fun _ _ _ _ _ => pts_nil) (fun _ _ _ _ _ => pe_op op_add (pv 4) (pv 5))
    case s5 => exact ps_ret (pv 2)
    refine q_asgR (er_call (vs := [.ref wa, .ref ma, nv k]) (dvs := []) (ea_cons (ev_fld (ev_var rfl) hb T.cl_Desk T.na_Desk_works (lk_Desk_works _ _ _)) (ea_cons (ev_fld (ev_var rfl) hb T.cl_Desk T.na_Desk_moment (lk_Desk_moment _ _ _)) (ea_cons (ev_var rfl) ea_nil))) (SpHour.r hW hM hS.w.ulen (by have := (sok_len hS).2; omega) hS.busy)) ?_
    rintro v H1 e1 ⟨t, rfl, hT⟩
    have hb1 := e1 _ _ hb
    have isd1 : IsDesk H1 b := ⟨_, _, _, _, _, hb1⟩
    obtain ⟨tdx, tm, ht, htm⟩ := id hT
    refine ⟨_, rfl, t, _, tdx, _, _, rfl, ht, T.cl_Told, T.na_Told_moment, lk_Told_moment _ _ _ _ _ _, _, rfl, b, d.cDesk, dx, _, rfl, hb1, T.cl_Desk, T.na_Desk_moment, (by show 3 < 1000; decide), ?_⟩
    rw [put_Desk_moment]
    generalize hH2 : upd H1 b (.ins d.cDesk dx (F_Desk (.ref wa) (.ref tm) (.ref ta))) = H2
    have o12 : Off b H1 H2 := by
      rw [← hH2]
      exact Off.upd
    have hb2 : H2 b = some (.ins d.cDesk dx (F_Desk (.ref wa) (.ref tm) (.ref ta))) := by
      rw [← hH2]
      exact upd_same
    have isd2 : IsDesk H2 b := ⟨_, _, _, _, _, hb2⟩
    have ht2 := o12 _ _ ht (ne_desk isd1 ht fun z => hd_told (Option.some.inj z))
    have hta2 := o12 _ _ (e1 _ _ hta) (ne_deskL isd1 (e1 _ _ hta))
    have hW2 := (hW.mono e1).off isd1 o12
    have htm2 := htm.off isd1 o12
    generalize hTT : hourT st.works st.hour st.level st.busy k = TT at *
    refine q_asgL (xs := nvs [TT.given, TT.burnt, TT.leaked, TT.blown, TT.short, k]) (el_lst (ea_cons (ev_fld (ev_var rfl) ht2 T.cl_Told T.na_Told_given (lk_Told_given _ _ _ _ _ _)) (ea_cons (ev_fld (ev_var rfl) ht2 T.cl_Told T.na_Told_burnt (lk_Told_burnt _ _ _ _ _ _)) (ea_cons (ev_fld (ev_var rfl) ht2 T.cl_Told T.na_Told_leaked (lk_Told_leaked _ _ _ _ _ _)) (ea_cons (ev_fld (ev_var rfl) ht2 T.cl_Told T.na_Told_blown (lk_Told_blown _ _ _ _ _ _)) (ea_cons (ev_fld (ev_var rfl) ht2 T.cl_Told T.na_Told_short (lk_Told_short _ _ _ _ _ _)) (ea_cons (ev_var rfl) ea_nil)))))) (by show 6 ≤ 100000; decide)) fun mp H3 hmp e3 hmp3 => ?_
    have hb3 := e3 _ _ hb2
    refine q_fldL (el_zipAdd (i := 4) (j := 5) (a := ta) (b := mp) (xs := totsOf st) (ys := [TT.given, TT.burnt, TT.leaked, TT.blown, TT.short, k]) (ea_cons (ev_fld (ev_var rfl) hb3 T.cl_Desk T.na_Desk_totals (lk_Desk_totals _ _ _)) (ea_cons (ev_var rfl) ea_nil)) (e3 _ _ hta2) hmp3 (by show 6 ≤ 40000; decide) (fun _ _ => rfl) (fun _ _ => rfl) (fun _ _ => rfl)) rfl hb3 T.cl_Desk T.na_Desk_totals (by show 3 < 1000; decide) fun tp H4 htp e4 htp4 => ?_
    have hb4 := e4 _ _ hb3
    have isd4 : IsDesk H4 b := ⟨_, _, _, _, _, hb4⟩
    have e24 := e3.trans e4
    rw [put_Desk_totals]
    generalize hH5 : upd H4 b (.ins d.cDesk dx (F_Desk (.ref wa) (.ref tm) (.ref tp))) = H5
    have o45 : Off b H4 H5 := by
      rw [← hH5]
      exact Off.upd
    refine s_ret (ev_var rfl) fun H6 e6 => ?_
    have oO : Off b H H6 := ((Off.of e1).trans (o12.ex e24)).trans (o45.ex e6)
    have hT1 : ToldAt d H1 t TT := hT
    refine kk _ H6 oO ?_ ⟨t, rfl, (((hT1.off isd1 o12).mono e24).off isd4 o45).mono e6⟩
    have hour := hour_is hk hS.w.h3
    rw [hTT] at hour
    have hso := sok_hour hS hk
    rw [hour] at hso ⊢
    refine ⟨dx, wa, tm, tp, e6 _ _ (by rw [← hH5]; exact upd_same), (((hW2.mono e24).off isd4 o45).mono e6), (((htm2.mono e24).off isd4 o45).mono e6), e6 _ _ (o45 _ _ htp4 (ne_deskL isd4 htp4)), hso⟩
end
end G

namespace G
open PySem PySem.Spec PyProof.Rows L2 Evl
/-- what a call that is no read answers, and what then stands; a refusal may be raised instead -/
def Tell (d : Ads) (b : Addr) (s : Mu14.State) (c : Mu14.Call) (H : Hp) (Q : VK) (E : XK) : Prop :=
  (∀ v H', Off b H H' → DeskAt d H' b (Mu14.step (some s) c).1 → AnsR (Mu14.step (some s) c).2 v H' → Q v H') ∧
  ∀ n : Int, Mu14.step (some s) c = (some s, [n]) → ∀ dd H', Off b H H' → DeskAt d H' b (some s) → H' dd = some (.xd [("number", .int n)]) → E (.ref d.cRefused) (some dd) H'
theorem Tell.xr {d : Ads} {b : Addr} {s : Mu14.State} {c : Mu14.Call} {H : Hp} {Q : VK} {E : XK} {n : Int} (t : Tell d b s c H Q E) (hD : DeskAt d H b (some s)) (h : Mu14.step (some s) c = (some s, [n])) : XR d.cRefused [("number", .int n)] H E :=
  fun dd H' e hd => t.2 n h dd H' (Off.of e) (hD.mono e) hd
theorem Tell.ret {d : Ads} {b : Addr} {s : Mu14.State} {c : Mu14.Call} {H H' : Hp} {Q : VK} {E : XK} {p : Addr} {o : Option Mu14.State} {l : List Int} (t : Tell d b s c H Q E) (h : Mu14.step (some s) c = (o, l)) (f : Off b H H') (hD : DeskAt d H' b o) (hp : H' p = some (.lst (l.map V.int))) : Q (.ref p) H' := by
  have := t.1 (.ref p) H' f
  rw [h] at this
  exact this hD ⟨p, rfl, hp⟩
def spTell1 (d : Ads) (c : Nat → Mu14.Call) : Sp := fun vs H Q E => ∃ (b : Addr) (s : Mu14.State) (k : Nat), vs = [.ref b, nv k] ∧ DeskAt d H b (some s) ∧ Tell d b s (c k) H Q E
def spTell0 (d : Ads) (c : Mu14.Call) : Sp := fun vs H Q E => ∃ (b : Addr) (s : Mu14.State), vs = [.ref b] ∧ DeskAt d H b (some s) ∧ Tell d b s c H Q E
section
variable {K : PySem.W.Frag} {σ : L2.St} {H H' : Hp} {ta tb te : TE} {a : Addr} {tA : TA} {D : Ends} {tz : TS}
theorem q_want {d : Ads} {c : Bool} {n : Int} {E : XK} (hA : EvA tA σ H [.bl c, .int n]) (h1 : c = true → ∀ H1, Ex H H1 → tz D σ H1) (h2 : c = false → XR d.cRefused [("number", .int n)] H E) : tSeq (tDrop (tCall (spWant d) [] E tA)) tz D σ H :=
  hA H (Ex.refl H) _ fun H1 e1 => ⟨c, n, rfl, fun hc H2 e2 => h1 hc H2 (e1.trans e2), fun hc => (h2 hc).mono e1⟩
theorem el_cat {xs ys : List V} (ha : EvL ta σ H xs) (hb : EvL tb σ H ys) (hz : xs.length + ys.length ≤ 100000) : EvL (tOp rCat ta tb) σ H (xs ++ ys) := fun H1 e Q q =>
  ha H1 e _ fun p H2 hp e2 h2 => hb H2 (e.trans e2) _ fun p2 H3 hp2 e3 h3 => ⟨p, p2, xs, ys, rfl, rfl, e3 _ _ h2, h3, sz_of hz, fun p3 hp3 => q p3 _ (fresh_back (e2.trans e3) hp3) ((e2.trans e3).trans (Ex.new hp3)) upd_same⟩
theorem el_listT {xs : List V} (ha : Ev ta σ H (.ref a)) (h : H a = some (.tup xs)) : EvL (tCB (rListS K) (tCons ta tNil)) σ H xs := fun H1 e Q q =>
  ha H1 e _ fun H2 e2 => ⟨a, xs, rfl, .inr (SqT.of (e2 _ _ (e _ _ h))), fun l hl => q l _ (fresh_back e2 hl) (e2.trans (Ex.new hl)) upd_same⟩
theorem ev_notN {x : V} (h : Ev ta σ H x) : Ev (tOp (fun x y H Q => y = .non ∧ Q (.bl (!decide (x = .non))) H) ta (tC .non)) σ H (.bl (!decide (x = .non))) := fun H1 e Q q => h H1 e _ fun H2 e2 => ⟨rfl, q H2 e2⟩
end
section
variable {P : Program} {w : World} {K : PySem.W.Frag} {mg : Str → Option Value} {base : Heap} {d : Ads}
/-! ### Desk.hour -/
theorem sc_Desk_hour : FnScope ["self", "many", "told"] ["self", "many"] (defScope s_Desk_hour) := ⟨rfl, rfl, rfl, by decide +kernel, rfl, by decide +kernel, by decide +kernel⟩
theorem step_hour_no {s : Mu14.State} {k : Nat} (h : ¬ k ≤ Mu14.idle s.busy) : Mu14.step (some s) (.hour k) = (some s, [-1]) := by
  show (if Mu14.idle s.busy < k then ((some s : Mu14.Abs), ([-1] : Mu14.Ans)) else _) = _
  rw [if_pos (by omega)]
theorem step_hour {s : Mu14.State} {k : Nat} (hS : SOk s) (h : k ≤ Mu14.idle s.busy) : Mu14.step (some s) (.hour k) = (some (Mu14.hour s k), Mu14.nums [(Mu14.hour s k).level, (hourT s.works s.hour s.level s.busy k).given, (hourT s.works s.hour s.level s.busy k).burnt, (hourT s.works s.hour s.level s.busy k).blown, (hourT s.works s.hour s.level s.busy k).short]) := by
  show (if Mu14.idle s.busy < k then _ else (some (Mu14.hour s k), Mu14.nums [(Mu14.hour s k).level, (Mu14.hour s k).made - s.made, (Mu14.hour s k).burnt - s.burnt, (Mu14.hour s k).lost - s.lost, (Mu14.hour s k).short - s.short])) = _
  rw [if_neg (by omega), hour_is h hS.w.h3]
  simp only [Nat.add_sub_cancel_left]
theorem ok_Desk_hour (T : Txt K mg d) : Ok P w K mg base (L2.CX P w) 9 d.m_Desk_hour ["self", "many"] (spTell1 d .hour) := by
  obtain ⟨fd, F, b⟩ := T.fn_m_Desk_hour
  obtain ⟨fdW, GW, bW⟩ := ok_want (P := P) (w := w) (base := base) T
  obtain ⟨fdE, GE, bE⟩ := ok_Moment_empty (P := P) (w := w) (base := base) T
  obtain ⟨fdP, GP, bP⟩ := ok_Desk_passes (P := P) (w := w) (base := base) T
  refine ⟨fd, F.okX sc_Desk_hour (fun vs H Q E h => ?_) (fun cdv A outer s H vs Q E hr h => ?_), b⟩
  · obtain ⟨b, s, k, rfl, _⟩ := h
    rfl
  · obtain ⟨b, st, k, rfl, hD, t⟩ := h
    have hr1 : Room 1 _ := hr.mono (by decide)
    have hr3 : Room 3 _ := hr.mono (by decide)
    have hr8 : Room 8 _ := hr.mono (by decide)
    refine' ⟨_, pss_cons ?s1 (pss_cons ?s2 (pss_one (ps_ret ?s3))), ?_⟩
    case s1 => exact ps_expr (pe_call GW hr3 rfl T.g_want T.k_want bW .nil (passes_call (takes_of rfl rfl rfl rfl) (fun _ _ _ _ h => h)) (pa_cons (pe_cmpR op_le (pv 1) (pe_meth0 (pe_fld (pv 0) rfl) T.cl_Moment T.me_Moment_empty GE hr1 bE .nil pass0) (nomark _)) (pa_cons (pe_gi T.k_BAD rfl) pa_nil)))
    case s2 => exact ps_set (i := 2) sc_Desk_hour.nd rfl (Or.inl rfl) (pe_meth (pv 0) T.cl_Desk T.me_Desk_passes GP hr8 bP .nil pass0 (pa_cons (pv 1) pa_nil))
    case s3 => exact pe_lst (pa_cons (pe_fld (pe_fld (pv 0) rfl) rfl) (pa_cons (pe_fld (pv 2) rfl) (pa_cons (pe_fld (pv 2) rfl) (pa_cons (pe_fld (pv 2) rfl) (pa_cons (pe_fld (pv 2) rfl) pa_nil)))))
    obtain ⟨dx, wa, ma, ta, hb, hW, hM, hta, hS⟩ := id hD
    obtain ⟨mdx, ml, hm1, hm2⟩ := id hM
    refine q_want (ea_cons (ev_leN (i := k) (j := Mu14.idle st.busy) (ev_var rfl) (ev_meth0 (ev_fld (ev_var rfl) hb T.cl_Desk T.na_Desk_moment (lk_Desk_moment _ _ _)) hm1 (lk_Moment_no_empty _ _ _) (SpEmpty.v hM (by have := (sok_len hS).2; omega)))) (ea_cons ev_c ea_nil)) (fun c H1 e1 => ?_) (fun c => t.xr hD (step_hour_no (of_decide_eq_false c)))
    have hk : k ≤ Mu14.idle st.busy := of_decide_eq_true c
    refine ⟨_, rfl, b, dx, _, rfl, e1 _ _ hb, lk_Desk_no_passes _ _ _, _, rfl, b, st, k, rfl, hD.mono e1, hk, fun v H2 f2 hD2 hT => ?_⟩
    obtain ⟨tt, rfl, tdx, tm, ht, htm⟩ := hT
    obtain ⟨dx2, wa2, ma2, ta2, hb2, hW2, hM2, hta2, hS2⟩ := id hD2
    obtain ⟨mdx2, ml2, hm12, hm22⟩ := id hM2
    refine s_retL (xs := nvs [(Mu14.hour st k).level, (hourT st.works st.hour st.level st.busy k).given, (hourT st.works st.hour st.level st.busy k).burnt, (hourT st.works st.hour st.level st.busy k).blown, (hourT st.works st.hour st.level st.busy k).short]) (el_lst (ea_cons (ev_fld (ev_fld (ev_var rfl) hb2 T.cl_Desk T.na_Desk_moment (lk_Desk_moment _ _ _)) hm12 T.cl_Moment T.na_Moment_held (lk_Moment_held _ _ _)) (ea_cons (ev_fld (ev_var rfl) ht T.cl_Told T.na_Told_given (lk_Told_given _ _ _ _ _ _)) (ea_cons (ev_fld (ev_var rfl) ht T.cl_Told T.na_Told_burnt (lk_Told_burnt _ _ _ _ _ _)) (ea_cons (ev_fld (ev_var rfl) ht T.cl_Told T.na_Told_blown (lk_Told_blown _ _ _ _ _ _)) (ea_cons (ev_fld (ev_var rfl) ht T.cl_Told T.na_Told_short (lk_Told_short _ _ _ _ _ _)) ea_nil))))) (by show 5 ≤ 100000; decide)) fun p H3 hp e3 hp3 => ?_
    exact t.ret (step_hour hS hk) (((Off.of e1).trans f2).ex e3) (hD2.mono e3) (by rw [nums_map]; exact hp3)
/-! ### Desk.look -/
theorem sc_Desk_look : FnScope ["self"] ["self"] (defScope s_Desk_look) := ⟨rfl, rfl, rfl, by decide +kernel, rfl, by decide +kernel, by decide +kernel⟩
theorem ok_Desk_look (T : Txt K mg d) : Ok P w K mg base CX0 1 d.m_Desk_look ["self"] (spTell0 d .look) := by
  obtain ⟨fd, F, b⟩ := T.fn_m_Desk_look
  refine ⟨fd, F.ok sc_Desk_look (fun vs H Q E h => ?_) (fun cdv A outer s H vs Q E hr h => ?_), b⟩
  · obtain ⟨b, s, rfl, _⟩ := h
    rfl
  · obtain ⟨b, st, rfl, hD, t⟩ := h
    refine' ⟨_, pss_one (ps_ret (pe_op op_cat ?a1 ?a2)), ?_⟩
    case a1 => exact pe_lst (pa_cons (pe_fld (pe_fld (pv 0) rfl) rfl) (pa_cons (pe_fld (pe_fld (pv 0) rfl) rfl) pa_nil))
    case a2 => exact pe_callTy call_list_of (by rfl) T.b_list PyProof.Rows.boot_list (pa_cons (pe_fld (pe_fld (pv 0) rfl) rfl) pa_nil)
    obtain ⟨dx, wa, ma, ta, hb, hW, hM, hta, hS⟩ := id hD
    obtain ⟨mdx, ml, hm1, hm2⟩ := id hM
    have hmo := ev_fld (σ := [some (V.ref b)]) (ta := tVar 0) (K := K) (ev_var rfl) hb T.cl_Desk T.na_Desk_moment (lk_Desk_moment _ _ _)
    refine s_retL (xs := nvs [st.hour, st.level] ++ nvs st.busy) (el_cat (el_lst (ea_cons (ev_fld hmo hm1 T.cl_Moment T.na_Moment_hours (lk_Moment_hours _ _ _)) (ea_cons (ev_fld hmo hm1 T.cl_Moment T.na_Moment_held (lk_Moment_held _ _ _)) ea_nil)) (by show 2 ≤ 100000; decide)) (el_listT (ev_fld hmo hm1 T.cl_Moment T.na_Moment_left (lk_Moment_left _ _ _)) hm2) ?_) fun p H1 hp e1 hp1 => ?_
    · have := (sok_len hS).2
      rw [nvs_len, nvs_len]
      show 2 + _ ≤ _
      omega
    · exact t.ret (c := .look) (o := some st) (l := Mu14.nums (st.hour :: st.level :: st.busy)) rfl (Off.of e1) (hD.mono e1) (by rw [nums_map]; exact hp1)
/-! ### Desk.wanted_in -/
theorem sc_Desk_wanted_in : FnScope ["self", "hour"] ["self", "hour"] (defScope s_Desk_wanted_in) := ⟨rfl, rfl, rfl, by decide +kernel, rfl, by decide +kernel, by decide +kernel⟩
theorem ok_Desk_wanted_in (T : Txt K mg d) : Ok P w K mg base (L2.CX P w) 4 d.m_Desk_wanted_in ["self", "hour"] (spTell1 d .wanted) := by
  obtain ⟨fd, F, b⟩ := T.fn_m_Desk_wanted_in
  obtain ⟨fdW, GW, bW⟩ := ok_want (P := P) (w := w) (base := base) T
  obtain ⟨fdE, GE, bE⟩ := ok_Works_wanted (P := P) (w := w) (base := base) T
  refine ⟨fd, F.okX sc_Desk_wanted_in (fun vs H Q E h => ?_) (fun cdv A outer s H vs Q E hr h => ?_), b⟩
  · obtain ⟨b, s, k, rfl, _⟩ := h
    rfl
  · obtain ⟨b, st, k, rfl, hD, t⟩ := h
    have hr3 : Room 3 _ := hr.mono (by decide)
    refine' ⟨_, pss_cons ?s1 (pss_one (ps_ret ?s3)), ?_⟩
    case s1 => exact ps_expr (pe_call GW hr3 rfl T.g_want T.k_want bW .nil (passes_call (takes_of rfl rfl rfl rfl) (fun _ _ _ _ h => h)) (pa_cons (pe_cmpR op_le (pv 1) (pe_gi T.k_LAST_HOUR_works rfl) (nomark _)) (pa_cons (pe_gi T.k_BAD rfl) pa_nil)))
    case s3 => exact pe_lst (pa_cons (pe_meth (pe_fld (pv 0) rfl) T.cl_Works T.me_Works_wanted GE hr3 bE .nil pass0 (pa_cons (pv 1) pa_nil)) pa_nil)
    obtain ⟨dx, wa, ma, ta, hb, hW, hM, hta, hS⟩ := id hD
    obtain ⟨wdx, wc, wu, wvs, hw1, _⟩ := id hW
    refine q_want (ea_cons (ev_leN (i := k) (j := 23) (ev_var rfl) ev_c) (ea_cons ev_c ea_nil)) (fun c H1 e1 => ?_) (fun c => t.xr hD ?_)
    · have hk : k ≤ 23 := of_decide_eq_true c
      refine s_retL (xs := [nv (Mu14.wanted st.works k)]) (el_lst (ea_cons (ev_meth (vs := [nv k]) (dvs := []) (ev_fld (ev_var rfl) (e1 _ _ hb) T.cl_Desk T.na_Desk_works (lk_Desk_works _ _ _)) (e1 _ _ hw1) (lk_Works_no_wanted _ _ _ _ _ _) (ea_cons (ev_var rfl) ea_nil) (SpWanted.v (hW.mono e1) hS.w.ulen (by omega))) ea_nil) (by show 1 ≤ 100000; decide)) fun p H2 hp e2 hp2 => ?_
      refine t.ret (o := some st) (l := [(Mu14.wanted st.works k : Int)]) ?_ (Off.of (e1.trans e2)) (hD.mono (e1.trans e2)) hp2
      show ((some st : Mu14.Abs), (if 23 < k then ([-1] : Mu14.Ans) else _)) = _
      rw [if_neg (by omega)]
    · have hk : ¬ k ≤ 23 := of_decide_eq_false c
      show ((some st : Mu14.Abs), (if 23 < k then ([-1] : Mu14.Ans) else _)) = _
      rw [if_pos (by omega)]
/-! ### Desk.best -/
theorem sc_Desk_best : FnScope ["self", "many", "found"] ["self", "many"] (defScope s_Desk_best) := ⟨rfl, rfl, rfl, by decide +kernel, rfl, by decide +kernel, by decide +kernel⟩
def spBestM (d : Ads) : Sp := fun vs H Q E => ∃ (b : Addr) (s : Mu14.State) (n : Nat), vs = [.ref b, nv n] ∧ DeskAt d H b (some s) ∧ (n = 0 ∨ 16 < n → XR d.cRefused [("number", .int (-1))] H E) ∧ (¬ (n = 0 ∨ 16 < n) → Mu14.best s n = none → XR d.cRefused [("number", .int (-6))] H E) ∧
  (¬ (n = 0 ∨ 16 < n) → ∀ p, Mu14.best s n = some p → POk s n p → RetR (fun v H' => ∃ a, v = .ref a ∧ ValAt H' a (toKV s p).2) H Q)
theorem ok_Desk_best (T : Txt K mg d) : Ok P w K mg base (L2.CX P w) 11 d.m_Desk_best ["self", "many"] (spBestM d) := by
  obtain ⟨fd, F, b⟩ := T.fn_m_Desk_best
  obtain ⟨fdW, GW, bW⟩ := ok_want (P := P) (w := w) (base := base) T
  obtain ⟨fdE, GE, bE⟩ := ok_best_plan (P := P) (w := w) (base := base) T
  refine ⟨fd, F.okX sc_Desk_best (fun vs H Q E h => ?_) (fun cdv A outer s H vs Q E hr h => ?_), b⟩
  · obtain ⟨b, s, k, rfl, _⟩ := h
    rfl
  · obtain ⟨b, st, n, rfl, hD, k1, k2, k3⟩ := h
    have hr3 : Room 3 _ := hr.mono (by decide)
    have hr10 : Room 10 _ := hr.mono (by decide)
    refine' ⟨_, pss_cons ?s1 (pss_cons ?s2 (pss_cons ?s3 (pss_one (ps_ret (pv 2))))), ?_⟩
    case s1 =>
      refine' ps_expr (pe_call GW hr3 rfl T.g_want T.k_want bW .nil (passes_call (takes_of rfl rfl rfl rfl) (fun _ _ _ _ h => h)) (pa_cons ?a1 (pa_cons (pe_gi T.k_BAD rfl) pa_nil)))
      case a1 => exact pe_and (pe_cmpR op_le pe_int (pv 1) (nomark _)) (pe_one (pe_cmpR op_le (pv 1) (pe_gi T.k_MOST_PLANNED rfl) (nomark _)))
    case s2 => exact ps_set (i := 2) sc_Desk_best.nd rfl (Or.inl rfl) (pe_call GE hr10 rfl T.g_best_plan T.k_best_plan bE .nil pass0 (pa_cons (pe_fld (pv 0) rfl) (pa_cons (pe_fld (pv 0) rfl) (pa_cons (pv 1) pa_nil))))
    case s3 => exact ps_expr (pe_call GW hr3 rfl T.g_want T.k_want bW .nil (passes_call (takes_of rfl rfl rfl rfl) (fun _ _ _ _ h => h)) (pa_cons (pe_cmpR op_notN (pv 2) pe_non (nomark _)) (pa_cons (pe_gi T.k_NO_PLAN rfl) pa_nil)))
    obtain ⟨dx, wa, ma, ta, hb, hW, hM, hta, hS⟩ := id hD
    refine q_want (c := decide (1 ≤ n) && decide (n ≤ 16)) (ea_cons (ev_andV (ev_leN (i := 1) (j := n) ev_c (ev_var rfl)) fun _ => ev_leN (i := n) (j := 16) (ev_var rfl) ev_c) (ea_cons ev_c ea_nil)) (fun c H1 e1 => ?_) (fun c => k1 ?_)
    · have hn : ¬ (n = 0 ∨ 16 < n) := by
        simp at c
        omega
      refine q_asgR (R := BestR st n) (er_call (vs := [.ref wa, .ref ma, nv n]) (dvs := []) (ea_cons (ev_fld (ev_var rfl) (e1 _ _ hb) T.cl_Desk T.na_Desk_works (lk_Desk_works _ _ _)) (ea_cons (ev_fld (ev_var rfl) (e1 _ _ hb) T.cl_Desk T.na_Desk_moment (lk_Desk_moment _ _ _)) (ea_cons (ev_var rfl) ea_nil))) fun H2 e2 Q2 q2 E2 => ⟨wa, ma, st, n, rfl, hW.mono (e1.trans e2), hM.mono (e1.trans e2), hS, by omega, q2⟩) fun v H2 e2 hv => ?_
      unfold BestR at hv
      have e12 := e1.trans e2
      cases hbest : Mu14.best st n with
      | none =>
        rw [hbest] at hv
        have hv : v = .non := hv
        subst hv
        exact q_want (c := !decide (V.non = V.non)) (ea_cons (ev_notN (ev_var rfl)) (ea_cons ev_c ea_nil)) (fun c => by simp at c) (fun _ => (k2 hn hbest).mono e12)
      | some p =>
        rw [hbest] at hv
        obtain ⟨hp, a, rfl, hV⟩ := hv
        refine q_want (c := !decide (V.ref a = V.non)) (ea_cons (ev_notN (ev_var rfl)) (ea_cons ev_c ea_nil)) (fun c H3 e3 => ?_) (fun c => by
          have : decide (V.ref a = V.non) = false := decide_eq_false fun z => nomatch z
          rw [this] at c
          cases c)
        exact s_ret (ev_var rfl) fun H4 e4 => k3 hn p hbest hp _ H4 ((e12.trans e3).trans e4) ⟨a, rfl, hV.mono (e3.trans e4)⟩
    · simp at c
      omega
end
end G

namespace G
open PySem PySem.Spec PyProof.Rows L2 Evl
theorem tell_best {s : Mu14.State} {n : Nat} (h : n = 0 ∨ 16 < n) : Mu14.step (some s) (.plan n) = (some s, [-1]) ∧ Mu14.step (some s) (.follow n) = (some s, [-1]) := by
  constructor
  · show ((some s : Mu14.Abs), (if n = 0 ∨ 16 < n then ([-1] : Mu14.Ans) else _)) = _
    rw [if_pos h]
  · show (if n = 0 ∨ 16 < n then ((some s : Mu14.Abs), ([-1] : Mu14.Ans)) else _) = _
    rw [if_pos h]
theorem tell_none {s : Mu14.State} {n : Nat} (h : ¬ (n = 0 ∨ 16 < n)) (hb : Mu14.best s n = none) : Mu14.step (some s) (.plan n) = (some s, [-6]) ∧ Mu14.step (some s) (.follow n) = (some s, [-6]) := by
  constructor
  · show ((some s : Mu14.Abs), (if n = 0 ∨ 16 < n then ([-1] : Mu14.Ans) else match Mu14.best s n with
      | none => [-6]
      | some p => Mu14.nums ((p.2.charges - s.charges) :: (p.2.lost - s.lost) :: p.1))) = _
    rw [if_neg h, hb]
  · show (if n = 0 ∨ 16 < n then ((some s : Mu14.Abs), ([-1] : Mu14.Ans)) else match Mu14.best s n with
      | none => ((some s : Mu14.Abs), ([-6] : Mu14.Ans))
      | some p => (some (Mu14.hours s p.1), Mu14.nums [(Mu14.hours s p.1).hour, (Mu14.hours s p.1).level])) = _
    rw [if_neg h, hb]
theorem tell_some {s : Mu14.State} {n : Nat} {p : Mu14.Plan} (h : ¬ (n = 0 ∨ 16 < n)) (hb : Mu14.best s n = some p) : Mu14.step (some s) (.plan n) = (some s, Mu14.nums ((p.2.charges - s.charges) :: (p.2.lost - s.lost) :: p.1)) ∧
    Mu14.step (some s) (.follow n) = (some (Mu14.hours s p.1), Mu14.nums [(Mu14.hours s p.1).hour, (Mu14.hours s p.1).level]) := by
  constructor
  · show ((some s : Mu14.Abs), (if n = 0 ∨ 16 < n then ([-1] : Mu14.Ans) else match Mu14.best s n with
      | none => [-6]
      | some p => Mu14.nums ((p.2.charges - s.charges) :: (p.2.lost - s.lost) :: p.1))) = _
    rw [if_neg h, hb]
  · show (if n = 0 ∨ 16 < n then ((some s : Mu14.Abs), ([-1] : Mu14.Ans)) else match Mu14.best s n with
      | none => ((some s : Mu14.Abs), ([-6] : Mu14.Ans))
      | some p => (some (Mu14.hours s p.1), Mu14.nums [(Mu14.hours s p.1).hour, (Mu14.hours s p.1).level])) = _
    rw [if_neg h, hb]
section
variable {P : Program} {w : World} {K : PySem.W.Frag} {mg : Str → Option Value} {base : Heap} {d : Ads}
/-! ### Desk.plan -/
theorem sc_Desk_plan : FnScope ["self", "many", "charges", "blown", "row"] ["self", "many"] (defScope s_Desk_plan) := ⟨rfl, rfl, rfl, by decide +kernel, rfl, by decide +kernel, by decide +kernel⟩
theorem ok_Desk_plan (T : Txt K mg d) : Ok P w K mg base (L2.CX P w) 12 d.m_Desk_plan ["self", "many"] (spTell1 d .plan) := by
  obtain ⟨fd, F, b⟩ := T.fn_m_Desk_plan
  obtain ⟨fdE, GE, bE⟩ := ok_Desk_best (P := P) (w := w) (base := base) T
  refine ⟨fd, F.okX sc_Desk_plan (fun vs H Q E h => ?_) (fun cdv A outer s H vs Q E hr h => ?_), b⟩
  · obtain ⟨b, s, k, rfl, _⟩ := h
    rfl
  · obtain ⟨b, st, n, rfl, hD, t⟩ := h
    have hr11 : Room 11 _ := hr.mono (by decide)
    refine' ⟨_, pss_cons ?s1 (pss_one (ps_ret (pe_op op_cat ?a1 ?a2))), ?_⟩
    case s1 => exact ps_asg (pe_meth (pv 0) T.cl_Desk T.me_Desk_best GE hr11 bE .nil (passes_call (takes_of rfl rfl rfl rfl) (fun _ _ _ _ h => h)) (pa_cons (pv 1) pa_nil)) (pg_tup rfl (pgs_cons (pg_name (i := 2) sc_Desk_plan.nd rfl (Or.inl rfl)) (pgs_cons (pg_name (i := 3) sc_Desk_plan.nd rfl (Or.inl rfl)) (pgs_cons (pg_name (i := 4) sc_Desk_plan.nd rfl (Or.inl rfl)) pgs_nil))))
    case a1 => exact pe_lst (pa_cons (pv 2) (pa_cons (pv 3) pa_nil))
    case a2 => exact pe_callTy call_list_of (by rfl) T.b_list PyProof.Rows.boot_list (pa_cons (pv 4) pa_nil)
    obtain ⟨dx, wa, ma, ta, hb, hW, hM, hta, hS⟩ := id hD
    refine ⟨_, rfl, b, dx, _, rfl, hb, lk_Desk_no_best _ _ _, _, rfl, b, st, n, rfl, hD, fun h => t.xr hD (tell_best h).1, fun h hn => t.xr hD (tell_none h hn).1, fun h p hp hP v H1 e1 ⟨a, hva, l, h1, h2⟩ => ?_⟩
    subst hva
    refine ⟨a, _, rfl, SqT.of h1, rfl, _, _, rfl, _, _, rfl, _, _, rfl, rfl, ?_⟩
    refine s_retL (xs := nvs [p.2.charges - st.charges, p.2.lost - st.lost] ++ nvs p.1) (el_cat (el_lst (ea_cons (ev_var rfl) (ea_cons (ev_var rfl) ea_nil)) (by show 2 ≤ 100000; decide)) (el_listT (ev_var rfl) h2) ?_) fun q H2 hq e2 hq2 => ?_
    · have := hP.len
      rw [nvs_len, nvs_len]
      show 2 + p.1.length ≤ _
      omega
    · exact t.ret (tell_some h hp).1 (Off.of (e1.trans e2)) (hD.mono (e1.trans e2)) (by rw [nums_map]; exact hq2)
/-! ### Desk.follow -/
theorem sc_Desk_follow : FnScope ["self", "many", "one"] ["self", "many"] (defScope s_Desk_follow) := ⟨rfl, rfl, rfl, by decide +kernel, rfl, by decide +kernel, by decide +kernel⟩
theorem ok_Desk_follow (T : Txt K mg d) : Ok P w K mg base (L2.CX P w) 12 d.m_Desk_follow ["self", "many"] (spTell1 d .follow) := by
  obtain ⟨fd, F, b⟩ := T.fn_m_Desk_follow
  obtain ⟨fdE, GE, bE⟩ := ok_Desk_best (P := P) (w := w) (base := base) T
  obtain ⟨fdP, GP, bP⟩ := ok_Desk_passes (P := P) (w := w) (base := base) T
  refine ⟨fd, F.okX sc_Desk_follow (fun vs H Q E h => ?_) (fun cdv A outer s H vs Q E hr h => ?_), b⟩
  · obtain ⟨b, s, k, rfl, _⟩ := h
    rfl
  · obtain ⟨b, st, n, rfl, hD, t⟩ := h
    have hr11 : Room 11 _ := hr.mono (by decide)
    have hr8 : Room 8 _ := hr.mono (by decide)
    refine' ⟨_, pss_cons ?s1 (pss_one (ps_ret ?a1)), ?_⟩
    case s1 =>
      refine' ps_for (passes_of rfl) rfl (pi_tup (pe_ix ix_tup (pe_meth (pv 0) T.cl_Desk T.me_Desk_best GE hr11 bE .nil (passes_call (takes_of rfl rfl rfl rfl) (fun _ _ _ _ h => h)) (pa_cons (pv 1) pa_nil)) pe_int (fun _ _ => rfl))) (pg_name (i := 2) sc_Desk_follow.nd rfl (Or.inl rfl)) (pss_one ?b1)
      case b1 => exact ps_expr (pe_meth (pv 0) T.cl_Desk T.me_Desk_passes GP hr8 bP .nil pass0 (pa_cons (pv 2) pa_nil))
    case a1 => exact pe_lst (pa_cons (pe_fld (pe_fld (pv 0) rfl) rfl) (pa_cons (pe_fld (pe_fld (pv 0) rfl) rfl) pa_nil))
    obtain ⟨dx, wa, ma, ta, hb, hW, hM, hta, hS⟩ := id hD
    refine ⟨_, rfl, b, dx, _, rfl, hb, lk_Desk_no_best _ _ _, _, rfl, b, st, n, rfl, hD, fun h => t.xr hD (tell_best h).2, fun h hn => t.xr hD (tell_none h hn).2, fun h p hp hP v H1 e1 ⟨a, hva, l, h1, h2⟩ => ?_⟩
    subst hva
    obtain ⟨hfit, hled⟩ := best_led hp
    have isd1 := (hD.mono e1).is
    refine ⟨a, _, 2, .ref l, rfl, rfl, SqT.of h1, rfl, l, rfl, ⟨_, SqT.of h2⟩, for_it (walk_tup (xs := nvs p.1)) (fun i σ H' => ∃ o2, σ = [some (.ref b), some (nv n), o2] ∧ Off b H1 H' ∧ DeskAt d H' b (some (Mu14.hours st (p.1.take i)))) ⟨none, rfl, Off.of (Ex.refl H1), hD.mono e1⟩ (fun i σ H' _ ⟨_, _, f, _⟩ => SqT.of (f _ _ h2 (ne_deskT isd1 h2))) ?_ ?_⟩
    · rintro i x σ' H2 H3 hi ⟨o2, rfl, f, hD2⟩ ⟨rfl, hx⟩
      obtain ⟨k, hk, rfl⟩ := nvs_at hx
      obtain ⟨dx2, _, _, _, hb2, _⟩ := id hD2
      refine ⟨_, rfl, b, dx2, _, rfl, hb2, lk_Desk_no_passes _ _ _, _, rfl, b, _, k, rfl, hD2, fits_at _ _ _ _ hfit hk, fun v H4 f4 hD4 _ => ⟨_, rfl, f.trans f4, ?_⟩⟩
      rw [take_more hk, hours_snoc]
      exact hD4
    · rintro σ' H2 ⟨o2, rfl, f, hD2⟩
      rw [nvs_len, List.take_length] at hD2
      obtain ⟨dx2, wa2, ma2, ta2, hb2, hW2, hM2, hta2, hS2⟩ := id hD2
      obtain ⟨mdx2, ml2, hm12, hm22⟩ := id hM2
      have hmo := ev_fld (σ := [some (V.ref b), some (nv n), o2]) (ta := tVar 0) (K := K) (ev_var rfl) hb2 T.cl_Desk T.na_Desk_moment (lk_Desk_moment _ _ _)
      refine s_retL (xs := nvs [(Mu14.hours st p.1).hour, (Mu14.hours st p.1).level]) (el_lst (ea_cons (ev_fld hmo hm12 T.cl_Moment T.na_Moment_hours (lk_Moment_hours _ _ _)) (ea_cons (ev_fld hmo hm12 T.cl_Moment T.na_Moment_held (lk_Moment_held _ _ _)) ea_nil)) (by show 2 ≤ 100000; decide)) fun q H3 hq e3 hq3 => ?_
      exact t.ret (tell_some h hp).2 (((Off.of e1).trans f).ex e3) (hD2.mono e3) (by rw [nums_map]; exact hq3)
/-! ### Desk.lasts -/
theorem sc_Desk_lasts : FnScope ["self", "here", "k", "told"] ["self"] (defScope s_Desk_lasts) := ⟨rfl, rfl, rfl, by decide +kernel, rfl, by decide +kernel, by decide +kernel⟩
theorem ok_Desk_lasts (T : Txt K mg d) : Ok P w K mg base CX0 7 d.m_Desk_lasts ["self"] (spTell0 d .lasts) := by
  obtain ⟨fd, F, b⟩ := T.fn_m_Desk_lasts
  obtain ⟨fdH, GH, bH⟩ := ok_hour_passed (P := P) (w := w) (base := base) T
  refine ⟨fd, F.ok sc_Desk_lasts (fun vs H Q E h => ?_) (fun cdv A outer s H vs Q E hr h => ?_), b⟩
  · obtain ⟨b, s, rfl, _⟩ := h
    rfl
  · obtain ⟨b, st, rfl, hD, t⟩ := h
    have hr6 : Room 6 _ := hr.mono (by decide)
    refine' ⟨_, pss_cons ?s1 (pss_cons ?s2 (pss_one (ps_ret ?s3))), ?_⟩
    case s1 => exact ps_set (i := 1) sc_Desk_lasts.nd rfl (Or.inl rfl) (pe_fld (pv 0) rfl)
    case s2 =>
      refine' ps_for PassesOwn.never rfl (pi_range1 rfl T.b_range (pa_cons (pe_gi T.k_MOST_LASTING rfl) pa_nil)) (pg_name (i := 2) sc_Desk_lasts.nd rfl (Or.inl rfl)) (pss_cons ?b1 (pss_cons (ps_if ?b2 (pss_one (ps_ret ?b3)) pss_nil) (pss_one ?b4)))
      case b1 => exact ps_set (i := 3) sc_Desk_lasts.nd rfl (Or.inl rfl) (pe_call GH hr6 rfl T.g_hour_passed T.k_hour_passed bH .nil pass0 (pa_cons (pe_fld (pv 0) rfl) (pa_cons (pv 1) (pa_cons pe_int pa_nil))))
      case b2 => exact pt_cmpR op_gt (pe_fld (pv 3) rfl) pe_int (nomark _)
      case b3 => exact pe_lst (pa_cons (pv 2) pa_nil)
      case b4 => exact ps_set (i := 1) sc_Desk_lasts.nd rfl (Or.inl rfl) (pe_fld (pv 3) rfl)
    case s3 => exact pe_lst (pa_cons (pe_gi T.k_MOST_LASTING rfl) pa_nil)
    obtain ⟨dx, wa, ma, ta, hb, hW, hM, hta, hS⟩ := id hD
    refine q_asg (ev_fld (ev_var rfl) hb T.cl_Desk T.na_Desk_moment (lk_Desk_moment _ _ _)) fun H1 e1 => ?_
    refine q_forR1 (n := 200) (ea_cons ev_c ea_nil) (by omega) (fun i σ' H' => ∃ (mi : Addr) (o2 o3 : Option V), σ' = [some (.ref b), some (.ref mi), o2, o3] ∧ Ex H H' ∧ MomentAt d H' mi (idleH st i).hour (idleH st i).level (idleH st i).busy ∧ ∀ j, j < i → (idleH st (j + 1)).short = (idleH st j).short)
      (fun H2 e2 => ⟨ma, none, none, rfl, e1.trans e2, hM.mono (e1.trans e2), fun j hj => absurd hj (Nat.not_lt_zero j)⟩) ?_ ?_
    · rintro i σ' H2 hi ⟨mi, o2, o3, rfl, e2, hMi, hsh⟩
      have hSi := sok_idle hS i
      have hWi := idle_works (s := st) i
      have hul := hS.w.ulen
      have hbu := hSi.busy
      rw [hWi] at hbu
      refine q_asgR (er_call (vs := [.ref wa, .ref mi, nv 0]) (dvs := []) (ea_cons (ev_fld (ev_var rfl) (e2 _ _ hb) T.cl_Desk T.na_Desk_works (lk_Desk_works _ _ _)) (ea_cons (ev_var rfl) (ea_cons ev_c ea_nil))) (SpHour.r (k := 0) (hW.mono e2) hMi hul (by have := (sok_len hSi).2; omega) hbu)) ?_
      rintro v H3 e3 ⟨tt, rfl, tdx, tm, ht, htm⟩
      have hour := hour_is (s := idleH st i) (k := 0) (Nat.zero_le _) hSi.w.h3
      rw [hWi] at hour
      generalize hTT : hourT st.works (idleH st i).hour (idleH st i).level (idleH st i).busy 0 = TT at *
      have hshort : (idleH st (i + 1)).short = (idleH st i).short + TT.short := by
        show (Mu14.hour (idleH st i) 0).short = _
        rw [hour]
      refine q_when (et_test (ev_gtN (j := 0) (ev_fld (ev_var rfl) ht T.cl_Told T.na_Told_short (lk_Told_short _ _ _ _ _ _)) ev_c)) (fun c H4 e4 => ?_) (fun c H4 e4 => ?_)
      · have c' : 0 < TT.short := of_decide_eq_true c
        have e04 := (e2.trans e3).trans e4
        have hi' : i < 200 := by omega
        have hla : Mu14.lasts 200 st = i := by
          rw [lasts_at (n := 200) i (by omega) hsh]
          have e : 200 - i = (200 - (i + 1)) + 1 := by omega
          have hne : ¬ (Mu14.hour (idleH st i) 0).short = (idleH st i).short := by
            intro z
            have : (idleH st (i + 1)).short = (idleH st i).short := z
            omega
          rw [e, lasts_step, if_neg hne]
          rfl
        refine s_retL (xs := [nv i]) (el_lst (ea_cons (ev_var rfl) ea_nil) (by show 1 ≤ 100000; decide)) fun q H5 hq e5 hq5 => ?_
        refine t.ret (o := some st) (l := [(i : Int)]) ?_ (Off.of (e04.trans e5)) (hD.mono (e04.trans e5)) hq5
        show ((some st : Mu14.Abs), ([(Mu14.lasts 200 st : Int)] : Mu14.Ans)) = _
        rw [hla]
      · have c' : ¬ 0 < TT.short := of_decide_eq_false c
        refine s_asg (ev_fld (ev_var rfl) (e4 _ _ ht) T.cl_Told T.na_Told_moment (lk_Told_moment _ _ _ _ _ _)) fun H5 e5 => ?_
        refine ⟨tm, _, _, rfl, ((e2.trans e3).trans e4).trans e5, ?_, fun j hj => ?_⟩
        · have := htm.mono (e4.trans e5)
          show MomentAt d H5 tm (Mu14.hour (idleH st i) 0).hour (Mu14.hour (idleH st i) 0).level (Mu14.hour (idleH st i) 0).busy
          rw [hour]
          exact this
        · by_cases hji : j = i
          · subst hji
            omega
          · exact hsh j (by omega)
    · rintro σ' H2 ⟨mi, o2, o3, rfl, e2, hMi, hsh⟩
      have hla : Mu14.lasts 200 st = 200 := by
        rw [lasts_at (n := 200) 200 (Nat.le_refl _) hsh]
        rfl
      refine s_retL (xs := [nv 200]) (el_lst (ea_cons ev_c ea_nil) (by show 1 ≤ 100000; decide)) fun q H5 hq e5 hq5 => ?_
      refine t.ret (o := some st) (l := [((200 : Nat) : Int)]) ?_ (Off.of (e2.trans e5)) (hD.mono (e2.trans e5)) hq5
      show ((some st : Mu14.Abs), ([(Mu14.lasts 200 st : Int)] : Mu14.Ans)) = _
      rw [hla]
end
end G

namespace G
open PySem PySem.Spec PyProof.Rows L2 Evl
theorem Tell.mono {d : Ads} {b : Addr} {s : Mu14.State} {c : Mu14.Call} {H H1 : Hp} {Q : VK} {E : XK} (e : Ex H H1) (t : Tell d b s c H Q E) : Tell d b s c H1 Q E :=
  ⟨fun v H' f => t.1 v H' ((Off.of e).trans f), fun n h dd H' f => t.2 n h dd H' ((Off.of e).trans f)⟩
theorem DeskAt.at {d : Ads} {H : Hp} {b : Addr} : ∀ {o : Option Mu14.State}, DeskAt d H b o → ∃ dx x y z, H b = some (.ins d.cDesk dx (F_Desk x y z))
  | none, ⟨_, _, _, h⟩ => ⟨_, _, _, _, h⟩
  | some _, ⟨_, _, _, _, h, _⟩ => ⟨_, _, _, _, h⟩
theorem ev_xf {σ : L2.St} {H : Hp} {a C dd : Addr} {f : Str} {i : Nat} {fs : List (Str × V)} {v : V} (h : σ[i]? = some (some (.ref a))) (hd : H dd = some (.xd fs)) (hl : fs.lookup f = some v) : Ev (tXf a (.ref C) (some dd) C f (tVar i)) σ H v := fun H1 e Q q =>
  ⟨_, h, rfl, rfl, dd, fs, v, rfl, e _ _ hd, hl, q H1 (Ex.refl H1)⟩
/-- o.m(e, ..) within a try: what it raises is wished for at the slots as they stand -/
def tMethS (C : Addr) (m : Str) (sp : Sp) (E : L2.St → XK) (ta : TE) (t : TA) : TE := fun σ H Q => ta σ H fun x H1 => ∃ a dx fs, x = .ref a ∧ H1 a = some (.ins C dx fs) ∧ fs.lookup m = none ∧ t σ H1 fun vs H2 => sp (x :: vs) H2 Q (E σ)
theorem pe_methS {X : Cx} {CX : CXT} {k : Nat} {f C : Addr} {fd : FuncData} {ps : List Str} {sp : Sp} {E : L2.St → XK} {m : Str} {pos apos : Pos} {e o : Expr} {es : List Expr} {ta : TE} {t : TA} {pl : Sem Bool} (he : PE X o ta) (c : Cls X.K C) (hm : Meth X.K C m f)
    (F : FnOk X.prog X.w X.K X.mg X.base CX k f fd ps sp) (hr : Room k X.A) (hb : Binds X.K fd ps []) (hx : ∀ σ, PassesAt CX X σ (E σ)) (ha : PA X (e :: es) t)
    (hst : starEach (e :: es) X.env = (false, eval e X.env) :: starEach es X.env := by rfl) (hpl : (backTo pos (starEach es X.env)).any (·.1) = false := by rfl)
    (ht : eval (.Call (.Attribute o m apos) (e :: es) [] pos) X.env = (do
      let ov ← eval o X.env
      standAt apos.atName
      let (f, first) ← holding [ov] (getMethod ov m pl)
      callWith pos f first (backTo pos (starEach (e :: es) X.env)) (backToKw pos (keywordEach [] X.env))) := by rfl) :
    PE X (.Call (.Attribute o m apos) (e :: es) [] pos) (tMethS C m sp E ta t) := by
  refine ⟨fun pins s σ H Q I h => ?_⟩
  refine PySem.W.methodCall_KW (pl := pl) (thn (he.run pins s σ H _ I h) fun u s1 ⟨x, H1, I1, rx, a, dx, fs, ex, ea, l, q⟩ => ?_) ht
  subst ex
  obtain rfl : u = Value.ref a := rx
  refine getmeth_ok I1 ea c hm l ?_
  refine PySem.W.callWith_K (first := [.ref a]) (h₀ := X.base) I.ok.mod.kin hm.kp (thn (ha.run pos pins s1 σ H1 _ I1 q) fun us s2 ⟨vs, H2, I2, r, q2⟩ => ⟨I2.kIn, ?_⟩) hst hpl
  exact run_fnS (us := .ref a :: us) (vs := .ref a :: vs) F hr hb (hx σ) I2 (.cons rfl r) q2
theorem step_none (c n : Nat) : Mu14.step none (callB c n) = (none, [-9]) := by
  unfold callB byN byC
  repeat' split
  all_goals rfl
theorem in_with (c : Nat) : inV (nv c) [.int 1, .int 4, .int 5, .int 6] = withN c := by
  have e : ∀ k : Nat, eqV (V.int (k : Int)) (nv c) = decide (c = k) := fun k => by
    show decide ((k : Int) = (c : Int)) = _
    apply decide_eq_decide.mpr
    omega
  unfold withN
  rw [← e 1, ← e 4, ← e 5, ← e 6]
  show (eqV (V.int 1) (nv c) || (eqV (V.int 4) (nv c) || (eqV (V.int 5) (nv c) || (eqV (V.int 6) (nv c) || false)))) = _
  rw [Bool.or_false]
  rfl
section
variable {P : Program} {w : World} {K : PySem.W.Frag} {mg : Str → Option Value} {base : Heap} {d : Ads}
/-! ### Desk.told_by_number, Desk.told -/
theorem sc_Desk_tbn : FnScope ["self", "call", "n"] ["self", "call", "n"] (defScope s_Desk_told_by_number) := ⟨rfl, rfl, rfl, by decide +kernel, rfl, by decide +kernel, by decide +kernel⟩
def spTBN (d : Ads) : Sp := fun vs H Q E => ∃ (b : Addr) (s : Mu14.State) (c n : Nat), vs = [.ref b, nv c, nv n] ∧ DeskAt d H b (some s) ∧ Tell d b s (byN c n) H Q E
theorem ok_Desk_tbn (T : Txt K mg d) : Ok P w K mg base (L2.CX P w) 13 d.m_Desk_told_by_number ["self", "call", "n"] (spTBN d) := by
  obtain ⟨fd, F, b⟩ := T.fn_m_Desk_told_by_number
  obtain ⟨fdH, GH, bH⟩ := ok_Desk_hour (P := P) (w := w) (base := base) T
  obtain ⟨fdW, GW, bW⟩ := ok_Desk_wanted_in (P := P) (w := w) (base := base) T
  obtain ⟨fdP, GP, bP⟩ := ok_Desk_plan (P := P) (w := w) (base := base) T
  obtain ⟨fdF, GF, bF⟩ := ok_Desk_follow (P := P) (w := w) (base := base) T
  refine ⟨fd, F.okX sc_Desk_tbn (fun vs H Q E h => ?_) (fun cdv A outer s H vs Q E hr h => ?_), b⟩
  · obtain ⟨b, s, c, n, rfl, _⟩ := h
    rfl
  · obtain ⟨b, st, c, n, rfl, hD, t⟩ := h
    have hr4 : Room 4 _ := hr.mono (by decide)
    have hr9 : Room 9 _ := hr.mono (by decide)
    have hr12 : Room 12 _ := hr.mono (by decide)
    refine' ⟨_, pss_cons (ps_if (pt_cmpR op_eq (pv 1) pe_int (nomark _)) (pss_one (ps_ret ?a1)) pss_nil) (pss_cons (ps_if (pt_cmpR op_eq (pv 1) pe_int (nomark _)) (pss_one (ps_ret ?a2)) pss_nil) (pss_cons (ps_if (pt_cmpR op_eq (pv 1) pe_int (nomark _)) (pss_one (ps_ret ?a3)) pss_nil) (pss_one (ps_ret ?a4)))), ?_⟩
    case a1 => exact pe_meth (pv 0) T.cl_Desk T.me_Desk_hour GH hr9 bH .nil (passes_call (takes_of rfl rfl rfl rfl) (fun _ _ _ _ h => h)) (pa_cons (pv 2) pa_nil)
    case a2 => exact pe_meth (pv 0) T.cl_Desk T.me_Desk_wanted_in GW hr4 bW .nil (passes_call (takes_of rfl rfl rfl rfl) (fun _ _ _ _ h => h)) (pa_cons (pv 2) pa_nil)
    case a3 => exact pe_meth (pv 0) T.cl_Desk T.me_Desk_plan GP hr12 bP .nil (passes_call (takes_of rfl rfl rfl rfl) (fun _ _ _ _ h => h)) (pa_cons (pv 2) pa_nil)
    case a4 => exact pe_meth (pv 0) T.cl_Desk T.me_Desk_follow GF hr12 bF .nil (passes_call (takes_of rfl rfl rfl rfl) (fun _ _ _ _ h => h)) (pa_cons (pv 2) pa_nil)
    obtain ⟨dx, x, y, z, hb⟩ := hD.at
    unfold byN at t
    refine q_when (et_test (ev_eqN (j := 1) (ev_var rfl) ev_c)) (fun c1 H1 e1 => ?_) (fun c1 H1 e1 => ?_)
    · rw [if_pos (of_decide_eq_true c1)] at t
      exact ⟨_, rfl, b, dx, _, rfl, e1 _ _ hb, lk_Desk_no_hour _ _ _, _, rfl, b, st, n, rfl, hD.mono e1, t.mono e1⟩
    · rw [if_neg (of_decide_eq_false c1)] at t
      refine q_when (et_test (ev_eqN (j := 4) (ev_var rfl) ev_c)) (fun c2 H2 e2 => ?_) (fun c2 H2 e2 => ?_)
      · rw [if_pos (of_decide_eq_true c2)] at t
        exact ⟨_, rfl, b, dx, _, rfl, (e1.trans e2) _ _ hb, lk_Desk_no_wanted_in _ _ _, _, rfl, b, st, n, rfl, hD.mono (e1.trans e2), t.mono (e1.trans e2)⟩
      · rw [if_neg (of_decide_eq_false c2)] at t
        refine q_when (et_test (ev_eqN (j := 5) (ev_var rfl) ev_c)) (fun c3 H3 e3 => ?_) (fun c3 H3 e3 => ?_)
        · rw [if_pos (of_decide_eq_true c3)] at t
          have e := (e1.trans e2).trans e3
          exact ⟨_, rfl, b, dx, _, rfl, e _ _ hb, lk_Desk_no_plan _ _ _, _, rfl, b, st, n, rfl, hD.mono e, t.mono e⟩
        · rw [if_neg (of_decide_eq_false c3)] at t
          have e := (e1.trans e2).trans e3
          exact ⟨_, rfl, b, dx, _, rfl, e _ _ hb, lk_Desk_no_follow _ _ _, _, rfl, b, st, n, rfl, hD.mono e, t.mono e⟩
theorem sc_Desk_told : FnScope ["self", "call"] ["self", "call"] (defScope s_Desk_told) := ⟨rfl, rfl, rfl, by decide +kernel, rfl, by decide +kernel, by decide +kernel⟩
def spToldM (d : Ads) : Sp := fun vs H Q E => ∃ (b : Addr) (s : Mu14.State) (c : Nat), vs = [.ref b, nv c] ∧ DeskAt d H b (some s) ∧ Tell d b s (byC c) H Q E
theorem ok_Desk_told (T : Txt K mg d) : Ok P w K mg base CX0 8 d.m_Desk_told ["self", "call"] (spToldM d) := by
  obtain ⟨fd, F, b⟩ := T.fn_m_Desk_told
  obtain ⟨fdK, GK, bK⟩ := ok_Desk_look (P := P) (w := w) (base := base) T
  obtain ⟨fdL, GL, bL⟩ := ok_Desk_lasts (P := P) (w := w) (base := base) T
  refine ⟨fd, F.ok sc_Desk_told (fun vs H Q E h => ?_) (fun cdv A outer s H vs Q E hr h => ?_), b⟩
  · obtain ⟨b, s, c, rfl, _⟩ := h
    rfl
  · obtain ⟨b, st, c, rfl, hD, t⟩ := h
    have hr1 : Room 1 _ := hr.mono (by decide)
    have hr7 : Room 7 _ := hr.mono (by decide)
    refine' ⟨_, pss_cons (ps_if (pt_cmpR op_eq (pv 1) pe_int (nomark _)) (pss_one (ps_ret ?a1)) pss_nil) (pss_cons (ps_if (pt_cmpR op_eq (pv 1) pe_int (nomark _)) (pss_one (ps_ret ?a2)) pss_nil) (pss_one (ps_ret ?a4))), ?_⟩
    case a1 => exact pe_meth0 (E := E) (pv 0) T.cl_Desk T.me_Desk_look GK hr1 bK .nil pass0
    case a2 => exact pe_callTy call_list_of (by rfl) T.b_list PyProof.Rows.boot_list (pa_cons (pe_fld (pv 0) rfl) pa_nil)
    case a4 => exact pe_meth0 (E := E) (pv 0) T.cl_Desk T.me_Desk_lasts GL hr7 bL .nil pass0
    obtain ⟨dx, wa, ma, ta, hb, hW, hM, hta, hS⟩ := id hD
    unfold byC at t
    refine q_when (et_test (ev_eqN (j := 2) (ev_var rfl) ev_c)) (fun c1 H1 e1 => ?_) (fun c1 H1 e1 => ?_)
    · rw [if_pos (of_decide_eq_true c1)] at t
      exact ⟨_, rfl, b, dx, _, rfl, e1 _ _ hb, lk_Desk_no_look _ _ _, b, st, rfl, hD.mono e1, t.mono e1⟩
    · rw [if_neg (of_decide_eq_false c1)] at t
      refine q_when (et_test (ev_eqN (j := 3) (ev_var rfl) ev_c)) (fun c2 H2 e2 => ?_) (fun c2 H2 e2 => ?_)
      · rw [if_pos (of_decide_eq_true c2)] at t
        have e12 := e1.trans e2
        refine s_retL (el_list (ev_fld (ev_var rfl) (e12 _ _ hb) T.cl_Desk T.na_Desk_totals (lk_Desk_totals _ _ _)) (SqL.of (e12 _ _ hta))) fun p H3 hp e3 hp3 => ?_
        exact t.ret (c := .sums) (o := some st) (l := Mu14.nums (totsOf st)) rfl (Off.of (e12.trans e3)) (hD.mono (e12.trans e3)) (by rw [nums_map]; exact hp3)
      · rw [if_neg (of_decide_eq_false c2)] at t
        exact ⟨_, rfl, b, dx, _, rfl, (e1.trans e2) _ _ hb, lk_Desk_no_lasts _ _ _, b, st, rfl, hD.mono (e1.trans e2), t.mono (e1.trans e2)⟩
/-! ### Desk.answer -/
theorem sc_Desk_answer : FnScope ["self", "call", "n", "found", "e"] ["self", "call", "n"] (defScope s_Desk_answer) := ⟨rfl, rfl, rfl, by decide +kernel, rfl, by decide +kernel, by decide +kernel⟩
def spAnswer (d : Ads) : Sp := fun vs H Q _ => ∃ (b : Addr) (o : Option Mu14.State) (c n : Nat), vs = [.ref b, nv c, nv n] ∧ DeskAt d H b o ∧ ∀ v H', Off b H H' → DeskAt d H' b (Mu14.step o (callB c n)).1 → AnsR (Mu14.step o (callB c n)).2 v H' → Q v H'
theorem ok_Desk_answer (T : Txt K mg d) : Ok P w K mg base CX0 14 d.m_Desk_answer ["self", "call", "n"] (spAnswer d) := by
  obtain ⟨fd, F, b⟩ := T.fn_m_Desk_answer
  obtain ⟨fdN, GN, bN⟩ := ok_Desk_tbn (P := P) (w := w) (base := base) T
  obtain ⟨fdT, GT, bT⟩ := ok_Desk_told (P := P) (w := w) (base := base) T
  refine ⟨fd, F.ok sc_Desk_answer (fun vs H Q E h => ?_) (fun cdv A outer s H vs Q E hr h => ?_), b⟩
  · obtain ⟨b, o, c, n, rfl, _⟩ := h
    rfl
  · obtain ⟨b, o, c, n, rfl, hD, k⟩ := h
    have hr13 : Room 13 _ := hr.mono (by decide)
    have hr8 : Room 8 _ := hr.mono (by decide)
    refine' ⟨_, pss_cons (ps_if (pt_cmpR op_isN (pe_fld (pv 0) rfl) pe_non (nomark _)) (pss_one (ps_ret ?a1)) pss_nil) (pss_cons ?s2 (pss_one (ps_ret (pv 3)))), ?_⟩
    case a1 => exact pe_lst (pa_cons (pe_gi T.k_NO_WORKS rfl) pa_nil)
    case s2 =>
      refine' ps_try_as (i := 4) (tb := fun W => tIfS (tTest (tOp (rIn K false) (tVar 1) (tC (.ref d.wWITH)))) (tAsg (tMethS d.cDesk "told_by_number" (spTBN d) (WE W) (tVar 0) (tCons (tVar 1) (tCons (tVar 2) tNil))) (gName 3)) (tAsg (tMeth d.cDesk "told" (spToldM d) [] (fun _ _ _ => True) (tVar 0) (tCons (tVar 1) tNil)) (gName 3)))
        (ts := fun a cls dd => tAsg (tLst (tCons (tXf a cls dd d.cRefused "number" (tVar 4)) tNil)) (gName 3)) (Wout := fun _ _ _ _ => False) rfl rfl sc_Desk_answer.nd rfl rfl ⟨rfl, by decide, Or.inl T.g_Refused⟩ takes0
        (fun W pn xe tk _ => pss_one (ps_if ?b1 (pss_one ?b2) (pss_one ?b3)))
        (fun a oe cls dd pn hz hf => pss_one ?b4)
      case b1 => exact pt_cmpR op_in_seq (pv 1) (pe_glob (v := .ref d.wWITH) rfl T.g_WITH_NUMBER rfl) (by rfl)
      case b2 => exact ps_set (i := 3) sc_Desk_answer.nd rfl (Or.inl rfl) (pe_methS (pv 0) T.cl_Desk T.me_Desk_told_by_number GN hr13 bN (fun σ => passAt tk σ) (by exact (pa_cons (pv 1) (pa_cons (pv 2) pa_nil))))
      case b3 => exact ps_set (i := 3) sc_Desk_answer.nd rfl (Or.inl rfl) (pe_meth (E := fun _ _ _ => True) (pv 0) T.cl_Desk T.me_Desk_told GT hr8 bT .nil pass0 (by exact (pa_cons (pv 1) pa_nil)))
      case b4 => exact ps_set (i := 3) sc_Desk_answer.nd rfl (Or.inl rfl) (pe_lst (by exact (pa_cons (pe_xf T.xf_Refused T.na_Refused_number hz hf (pv 4)) pa_nil)))
    cases o with
    | none =>
      obtain ⟨dx, m, tt, hb⟩ := id hD
      rw [step_none] at k
      refine q_when (et_test (ev_isN (x := .non) (ev_fld (ev_var rfl) hb T.cl_Desk T.na_Desk_works (lk_Desk_works _ _ _)))) (fun c1 H1 e1 => ?_) (fun c1 H1 e1 => by simp at c1)
      exact s_retL (xs := [.int (-9)]) (el_lst (ea_cons ev_c ea_nil) (by show 1 ≤ 100000; decide)) fun p H2 hp e2 hp2 => k _ H2 (Off.of (e1.trans e2)) (hD.mono (e1.trans e2)) ⟨p, rfl, hp2⟩
    | some st =>
      obtain ⟨dx, wa, ma, ta, hb, hW, hM, hta, hS⟩ := id hD
      refine q_when (et_test (ev_isN (x := .ref wa) (ev_fld (ev_var rfl) hb T.cl_Desk T.na_Desk_works (lk_Desk_works _ _ _)))) (fun c1 H1 e1 => by
        have : decide (V.ref wa = V.non) = false := decide_eq_false fun z => nomatch z
        rw [this] at c1
        cases c1) (fun c1 H1 e1 => ?_)
      unfold callB at k
      refine q_if (et_test (ev_op (ev_var rfl) ev_c (rv_isT (T.t_WITH_NUMBER H1) rfl rfl))) (fun c2 H2 e2 => ?_) (fun c2 H2 e2 => ?_)
      · rw [in_with] at c2
        rw [if_pos c2] at k
        have e12 := e1.trans e2
        refine ⟨_, rfl, b, dx, _, rfl, e12 _ _ hb, lk_Desk_no_told_by_number _ _ _, _, rfl, _, rfl, b, st, c, n, rfl, hD.mono e12, fun v H3 f3 hD3 ha3 => ?_, fun m hm dd H3 f3 hD3 hdd => ?_⟩
        · exact s_ret (ev_var rfl) fun H4 e4 => k _ H4 (((Off.of e12).trans f3).ex e4) (hD3.mono e4) (by
            obtain ⟨p, hp, hp2⟩ := ha3
            exact ⟨p, hp, e4 _ _ hp2⟩)
        · refine ⟨true, T.te_Refused, fun _ a0 ha0 => ?_, fun q => Bool.noConfusion q⟩
          rw [hm] at k
          refine s_asgL (xs := [.int m]) (el_lst (ea_cons (ev_xf rfl hdd lk_here) ea_nil) (by show 1 ≤ 100000; decide)) fun p H4 hp e4 hp4 => ?_
          exact s_ret (ev_var rfl) fun H5 e5 => k _ H5 (((Off.of e12).trans f3).ex (e4.trans e5)) (hD3.mono (e4.trans e5)) ⟨p, rfl, e5 _ _ hp4⟩
      · rw [in_with] at c2
        rw [if_neg (by rw [c2]; exact Bool.false_ne_true)] at k
        have e12 := e1.trans e2
        refine ⟨_, rfl, b, dx, _, rfl, e12 _ _ hb, lk_Desk_no_told _ _ _, _, rfl, b, st, c, rfl, hD.mono e12, fun v H3 f3 hD3 ha3 => ?_, fun m hm dd H3 f3 hD3 hdd => trivial⟩
        exact s_ret (ev_var rfl) fun H4 e4 => k _ H4 (((Off.of e12).trans f3).ex e4) (hD3.mono e4) (by
          obtain ⟨p, hp, hp2⟩ := ha3
          exact ⟨p, hp, e4 _ _ hp2⟩)
/-! ### Desk.read -/
theorem sc_Desk_read : FnScope ["self", "text", "found", "e"] ["self", "text"] (defScope s_Desk_read) := ⟨rfl, rfl, rfl, by decide +kernel, rfl, by decide +kernel, by decide +kernel⟩
def spDRead (d : Ads) : Sp := fun vs H Q _ => ∃ (b a : Addr) (o : Option Mu14.State) (text : List Nat), vs = [.ref b, .ref a] ∧ DeskAt d H b o ∧ H a = some (.lst (nvs text)) ∧ text.length ≤ 2000 ∧
  ∀ v H', Off b H H' → DeskAt d H' b (Mu14.step o (.read text)).1 → AnsR (Mu14.step o (.read text)).2 v H' → Q v H'
theorem lk_Wrong_line (v u : V) : List.lookup ("line" : Str) [("number", v), ("line", u)] = some u := (lk_past (by decide +kernel)).trans lk_here
theorem ok_Desk_read (T : Txt K mg d) : Ok P w K mg base CX0 8 d.m_Desk_read ["self", "text"] (spDRead d) := by
  obtain ⟨fd, F, b⟩ := T.fn_m_Desk_read
  obtain ⟨fdR, GR, bR⟩ := ok_read_works (P := P) (w := w) (base := base) T
  obtain ⟨fdB, GB, bB⟩ := ok_beginning (P := P) (w := w) (base := base) T
  refine ⟨fd, F.ok sc_Desk_read (fun vs H Q E h => ?_) (fun cdv A outer s H vs Q E hr h => ?_), b⟩
  · obtain ⟨b, a, o, text, rfl, _⟩ := h
    rfl
  · obtain ⟨b, a, o, text, rfl, hD, ha, hz, k⟩ := h
    have hr6 : Room 6 _ := hr.mono (by decide)
    have hr4 : Room 4 _ := hr.mono (by decide)
    refine' ⟨_, pss_cons ?s1 (pss_cons ?s2 (pss_cons ?s3 (pss_cons ?s4 (pss_cons ?s5 (pss_one (ps_ret ?s6)))))), ?_⟩
    case s1 => exact ps_fld (pv 0) pe_non rfl
    case s2 =>
      refine' ps_try_as (i := 3) (tb := fun W => tAsg (tCallS (spRead K d) (WE W) (tCons (tVar 1) tNil)) (gName 2))
        (ts := fun a cls dd => tRet (tLst (tCons (tC (.int (-2))) (tCons (tXf a cls dd d.cWrong "line" (tVar 3)) (tCons (tXf a cls dd d.cWrong "number" (tVar 3)) tNil))))) (Wout := fun _ _ _ _ => False) rfl rfl sc_Desk_read.nd rfl rfl ⟨rfl, by decide, Or.inl T.g_Wrong⟩ takes0
        (fun W pn xe tk _ => pss_one ?b1) (fun a oe cls dd pn hz hf => pss_one (ps_ret ?b2))
      case b1 => exact ps_set (i := 2) sc_Desk_read.nd rfl (Or.inl rfl) (pe_callS GR hr6 rfl T.g_read_works T.k_read_works bR (fun σ => passAt tk σ) (by exact (pa_cons (pv 1) pa_nil)))
      case b2 => exact pe_lst (by exact (pa_cons (pe_gi T.k_NO_TEXT rfl) (pa_cons (pe_xf T.xf_Wrong T.na_Wrong_line hz hf (pv 3)) (pa_cons (pe_xf T.xf_Wrong T.na_Wrong_number hz hf (pv 3)) pa_nil))))
    case s3 => exact ps_fld (pv 0) (pv 2) rfl
    case s4 => exact ps_fld (pv 0) (pe_call GB hr4 rfl T.g_beginning T.k_beginning bB .nil pass0 (pa_cons (pv 2) pa_nil)) rfl
    case s5 => exact ps_fld (pv 0) (pe_lst (pa_cons pe_int (pa_cons pe_int (pa_cons pe_int (pa_cons pe_int (pa_cons pe_int (pa_cons pe_int pa_nil))))))) rfl
    case s6 => exact pe_lst (pa_cons pe_int (pa_cons (pe_callB call_len_seq (by rfl) T.b_len PySem.boot_len (pa_cons (pe_fld (pv 2) rfl) pa_nil)) pa_nil))
    obtain ⟨dx, x, y, z, hb⟩ := hD.at
    have isd : IsDesk H b := ⟨_, _, _, _, _, hb⟩
    refine ⟨_, rfl, b, d.cDesk, dx, _, rfl, hb, T.cl_Desk, T.na_Desk_works, (by show 3 < 1000; decide), ?_⟩
    rw [put_Desk_works]
    generalize hH1 : upd H b (.ins d.cDesk dx (F_Desk .non y z)) = H1
    have o1 : Off b H H1 := by
      rw [← hH1]
      exact Off.upd
    have hb1 : H1 b = some (.ins d.cDesk dx (F_Desk .non y z)) := by
      rw [← hH1]
      exact upd_same
    have ha1 := o1 _ _ ha (ne_deskL isd ha)
    refine ⟨_, rfl, a, text, rfl, SqL.of ha1, hz, fun W hW v H2 e2 hv => ?_, fun n kf hE dd H2 e2 hdd => ?_⟩
    · obtain ⟨wa, rfl, hWA⟩ := hv
      have hwh := read_whole hW
      have hstep : Mu14.step o (.read text) = (some (Mu14.begun W), [0, (W.uses.length : Int)]) := by
        cases o <;> (show (match Mu14.read text with | .error x => _ | .ok W => _) = _; rw [hW])
      rw [hstep] at k
      have hb2 := e2 _ _ hb1
      have isd2 : IsDesk H2 b := ⟨_, _, _, _, _, hb2⟩
      refine ⟨_, rfl, _, rfl, b, d.cDesk, dx, _, rfl, hb2, T.cl_Desk, T.na_Desk_works, (by show 3 < 1000; decide), ?_⟩
      rw [put_Desk_works]
      generalize hH3 : upd H2 b (.ins d.cDesk dx (F_Desk (.ref wa) y z)) = H3
      have o3 : Off b H2 H3 := by
        rw [← hH3]
        exact Off.upd
      have hb3 : H3 b = some (.ins d.cDesk dx (F_Desk (.ref wa) y z)) := by
        rw [← hH3]
        exact upd_same
      have hW3 := hWA.off isd2 o3
      have hso := sok_begun hwh
      obtain ⟨rr, hrr⟩ := Option.isSome_iff_exists.mp hwh.h2
      have hre := hwh.retorts rr hrr
      refine q_fldR (er_call (vs := [.ref wa]) (dvs := []) (ea_cons (ev_var rfl) ea_nil) (R := MomR d 0 (W.holder.getD (0, 0)).2 (List.replicate (W.retorts.getD 0) 0)) fun H4 e4 Q4 q4 E4 => ⟨wa, W, rfl, hW3.mono e4, by rw [hrr]; exact hre.1, by rw [hrr]; exact hre.2, q4⟩) rfl hb3 T.cl_Desk T.na_Desk_moment (by show 3 < 1000; decide) ?_
      rintro v H4 e4 ⟨ma, rfl, hMA⟩
      rw [put_Desk_moment]
      have hb4 := e4 _ _ hb3
      have isd4 : IsDesk H4 b := ⟨_, _, _, _, _, hb4⟩
      generalize hH5 : upd H4 b (.ins d.cDesk dx (F_Desk (.ref wa) (.ref ma) z)) = H5
      have o5 : Off b H4 H5 := by
        rw [← hH5]
        exact Off.upd
      have hb5 : H5 b = some (.ins d.cDesk dx (F_Desk (.ref wa) (.ref ma) z)) := by
        rw [← hH5]
        exact upd_same
      have isd5 : IsDesk H5 b := ⟨_, _, _, _, _, hb5⟩
      have hW5 := (hW3.mono e4).off isd4 o5
      have hM5 := hMA.off isd4 o5
      refine q_fldL (xs := nvs (totsOf (Mu14.begun W))) (el_lst (ea_cons ev_c (ea_cons ev_c (ea_cons ev_c (ea_cons ev_c (ea_cons ev_c (ea_cons ev_c ea_nil)))))) (by show 6 ≤ 100000; decide)) rfl hb5 T.cl_Desk T.na_Desk_totals (by show 3 < 1000; decide) fun tp H6 htp e6 htp6 => ?_
      rw [put_Desk_totals]
      have hb6 := e6 _ _ hb5
      have isd6 : IsDesk H6 b := ⟨_, _, _, _, _, hb6⟩
      generalize hH7 : upd H6 b (.ins d.cDesk dx (F_Desk (.ref wa) (.ref ma) (.ref tp))) = H7
      have o7 : Off b H6 H7 := by
        rw [← hH7]
        exact Off.upd
      have hb7 : H7 b = some (.ins d.cDesk dx (F_Desk (.ref wa) (.ref ma) (.ref tp))) := by
        rw [← hH7]
        exact upd_same
      have hW7 := (hW5.mono e6).off isd6 o7
      have hM7 := (hM5.mono e6).off isd6 o7
      have ht7 := o7 _ _ htp6 (ne_deskL isd6 htp6)
      obtain ⟨wdx, wc, wu, wvs, hw1, hw2, hw3, hw4⟩ := id hW7
      refine s_retL (xs := [.int 0, nv W.uses.length]) (el_lst (ea_cons ev_c (ea_cons (ev_cast (ev_lenS (ev_fld (ev_var rfl) hw1 T.cl_Works T.na_Works_uses (lk_Works_uses _ _ _ _ _ _)) (.inl (SqL.of hw3))) (by rw [Paired.length hw4]; rfl)) ea_nil)) (by show 2 ≤ 100000; decide)) fun p H8 hp e8 hp8 => ?_
      exact k _ H8 ((((o1.ex e2).trans (o3.ex e4)).trans (o5.ex e6)).trans (o7.ex e8)) ⟨dx, wa, ma, tp, e8 _ _ hb7, hW7.mono e8, hM7.mono e8, e8 _ _ ht7, hso⟩ ⟨p, rfl, hp8⟩
    · have hstep : Mu14.step o (.read text) = (none, [-2, (n : Int), (kf : Int)]) := by
        cases o <;> (show (match Mu14.read text with | .error x => _ | .ok W => _) = _; rw [hE])
      rw [hstep] at k
      refine ⟨true, T.te_Wrong, fun _ a0 ha0 => ?_, fun q => Bool.noConfusion q⟩
      refine s_retL (xs := [.int (-2), nv n, nv kf]) (el_lst (ea_cons ev_c (ea_cons (ev_xf rfl hdd (lk_Wrong_line _ _)) (ea_cons (ev_xf rfl hdd lk_here) ea_nil))) (by show 3 ≤ 100000; decide)) fun p H3 hp e3 hp3 => ?_
      exact k _ H3 (o1.ex (e2.trans e3)) ⟨dx, y, z, (e2.trans e3) _ _ hb1⟩ ⟨p, rfl, hp3⟩
end
end G

namespace G
open PySem PySem.Spec PyProof.Rows L2 Evl
/-! ### a list that is put out of sight while a call runs -/
def hid (fp : Addr) (xs : List V) : HO := .ext fun h => xs.length ≤ sizeLine ∧ ∃ (its : List Value) (n : Nat), Vals xs its ∧ h.get? fp = some { cls := .type "list", data := .seq its.toArray n }
def tHide (te : TE) : TE := fun σ H Q => ∃ fp xs, H fp = some (.lst xs) ∧ te σ (upd H fp (hid fp xs)) fun v H1 => H1 fp = some (hid fp xs) ∧ Q v (upd H1 fp (.lst xs))
theorem pe_hide {X : Cx} {e : Expr} {te : TE} (he : PE X e te) : PE X e (tHide te) := by
  refine ⟨fun pins s σ H Q I h => ?_⟩
  obtain ⟨fp, xs, hf, ht⟩ := h
  have hl : ObjOk X.prog X.w H s.heap fp (.lst xs) := I.hok fp _ hf
  obtain ⟨hz, its, n, hv, hg⟩ := id hl
  have I1 : Inv X pins σ (upd H fp (hid fp xs)) s := I.write (h' := s.heap) (t' := s.toks) (x := fp) (e := fp) (o := hid fp xs) (by rw [hf]; exact True.intro) (.inl rfl) (fun _ _ _ q => q) ⟨_, hg⟩
    ⟨⟨hz, its, n, hv, hg⟩, ⟨_, hg⟩, fun h1 h2 z k => by
      obtain ⟨z1, z2, z3, z4, z5⟩ := z
      exact ⟨z1, z2, z3, z4, k _ z5⟩⟩
  refine thn (he.run pins s σ _ _ I1 ht) fun v s1 hh => ?_
  obtain ⟨x, H1, I2, r, hf1, q⟩ := hh
  have hx : ObjOk X.prog X.w H1 s1.heap fp (.ext fun h => xs.length ≤ sizeLine ∧ ∃ (its : List Value) (n : Nat), Vals xs its ∧ h.get? fp = some { cls := .type "list", data := .seq its.toArray n }) := I2.hok fp _ hf1
  obtain ⟨z1, z2, z3, z4, z5⟩ := hx.1
  exact ⟨x, _, I2.write (h' := s1.heap) (t' := s1.toks) (x := fp) (e := fp) (o := .lst xs) (by rw [hf1]; exact True.intro) (.inl rfl) (fun _ _ _ q => q) ⟨_, z5⟩ ⟨z1, z2, z3, z4, z5⟩, r, q⟩
theorem ExN.desk {d : Ads} {H H' : Hp} {b : Addr} (e : ExN H H') : ∀ {o : Option Mu14.State}, DeskAt d H b o → DeskAt d H' b o
  | none, ⟨dx, m, t, h⟩ => ⟨dx, m, t, e _ _ rfl h⟩
  | some s, ⟨dx, wa, ma, ta, h1, h2, h3, h4, h5⟩ => ⟨dx, wa, ma, ta, e _ _ rfl h1, e.works h2, e.mom h3, e _ _ rfl h4, h5⟩
/-- what is out of sight may become anything -/
theorem desk_any {d : Ads} {H : Hp} {b fp : Addr} {xs : List V} {u : HO} {o : Option Mu14.State} (hf : H fp = some (hid fp xs)) (h : DeskAt d H b o) : DeskAt d (upd H fp u) b o := by
  refine ExN.desk (H := H) (fun x v hv hx => ?_) h
  by_cases hb : x = fp
  · rw [hb, hf] at hx
    cases hx
    cases hv
  · rw [upd_ne hb]
    exact hx
theorem ex_upd {H H' : Hp} {a : Addr} {u : HO} (e : ∀ x o, x ≠ a → H x = some o → H' x = some o) : Ex (upd H a u) (upd H' a u) := fun x o hx => by
  by_cases hb : x = a
  · rw [hb, upd_same] at hx
    rw [hb, upd_same]
    exact hx
  · rw [upd_ne hb] at hx ⊢
    exact e x o hb hx
theorem cut_to (xs : List V) (i j : Nat) (h : j ≤ xs.length) (hij : i ≤ j) : cutV xs (some (i : Int)) (some (j : Int)) = (xs.drop i).take (j - i) := by
  unfold cutV
  rw [HT.sIx_nat, HT.sIx_nat, Nat.min_eq_left h, Nat.min_eq_left (by omega)]
theorem desk_sok {d : Ads} {H : Hp} {b : Addr} {o : Option Mu14.State} (h : DeskAt d H b o) : ∀ s, o = some s → SOk s := fun s e => by
  subst e
  obtain ⟨_, _, _, _, _, _, _, _, h5⟩ := h
  exact h5
/-- the loop's state -/
def Lp (d : Ads) (l : List Int) (a b fp : Addr) (H : Hp) (goal : List Int) (μ : Nat) (σ : L2.St) (H' : Hp) : Prop := ∃ (m f : Nat) (cs : Raw) (o : Option Mu14.State) (acc : List Int) (o4 o5 o6 o7 : Option V),
  σ = [some (.ref a), some (.ref b), some (.ref fp), some (nv m), o4, o5, o6, o7] ∧ μ = l.length - m ∧ m ≤ l.length ∧ PyFlat.calls PyMu14.shape f (l.drop m) = some cs ∧ cs.all Mu14Neutral.asked1 = true ∧ acc.length + 21 * cs.length ≤ 1260 ∧
  goal = acc ++ PyFlat.told (PyFlat.played Mu14Neutral.step o cs) ∧ Ex H H' ∧ H' fp = some (.lst (acc.map V.int)) ∧ DeskAt d (upd H' fp (hid fp (acc.map V.int))) b o
def TL (K : PySem.W.Frag) : TS := tSeq (tDrop (tBM K "list" rAppend (tVar 2) (tCons (tCB (rLenS K) (tCons (tVar 6) tNil)) tNil))) (tDrop (tBM K "list" rExtend (tVar 2) (tCons (tVar 6) tNil)))
theorem tail_ok {K : PySem.W.Frag} {d : Ads} {l : List Int} {a b fp p : Addr} {H H2 : Hp} {goal : List Int} {μ m f : Nat} {cs : Raw} {o : Option Mu14.State} {acc ans : List Int} {o4 o5 o7 : Option V} {D : Ends} (hD : ∀ σ' H', (∃ μ', μ' < μ ∧ Lp d l a b fp H goal μ' σ' H') → D.nx σ' H') (hm : m ≤ l.length) (hlt : l.length - m < μ)
    (hc : PyFlat.calls PyMu14.shape f (l.drop m) = some cs) (ha : cs.all Mu14Neutral.asked1 = true) (hz : acc.length + 21 * (cs.length + 1) ≤ 1260) (hans : ans.length ≤ 20) (hg : goal = acc ++ PyFlat.told (ans :: PyFlat.played Mu14Neutral.step o cs))
    (eH : ∀ x u, H x = some u → x ≠ fp ∧ H2 x = some u) (hF : H2 fp = some (hid fp (acc.map V.int))) (hK : DeskAt d H2 b o) (hp : H2 p = some (.lst (ans.map V.int))) :
    TL K D [some (.ref a), some (.ref b), some (.ref fp), some (nv m), o4, o5, some (.ref p), o7] (upd H2 fp (.lst (acc.map V.int))) := by
  have hpf : p ≠ fp := fun z => by
    rw [z, hF] at hp
    cases hp
  have hp3 : upd H2 fp (.lst (acc.map V.int)) p = some (.lst (ans.map V.int)) := by
    rw [upd_ne hpf]
    exact hp
  refine q_app (v := .int (ans.length : Nat)) (l := fp) upd_same (ev_var rfl) (ev_cast (ev_lenS (ev_var rfl) (.inl (SqL.of hp3))) (by rw [List.length_map])) (by rw [List.length_map]; omega) fun H4 e4 => ?_
  have hp4 : upd H4 fp (.lst (acc.map V.int ++ [.int (ans.length : Nat)])) p = some (.lst (ans.map V.int)) := by
    rw [upd_ne hpf]
    exact e4 _ _ hp3
  refine ⟨_, rfl, Or.inl ⟨rfl, _, SqL.of upd_same⟩, _, rfl, fp, p, _, _, rfl, rfl, upd_same, hp4, sz_of ?_, ?_⟩
  · simp
    omega
  · rw [upd_upd]
    have eA : acc.map V.int ++ [.int (ans.length : Nat)] ++ ans.map V.int = (acc ++ ((ans.length : Int) :: ans)).map V.int := by simp
    rw [eA]
    refine hD _ _ ⟨l.length - m, hlt, m, f, cs, o, acc ++ ((ans.length : Int) :: ans), o4, o5, _, o7, rfl, rfl, hm, hc, ha, ?_, ?_, ?_, upd_same, ?_⟩
    · simp
      omega
    · rw [hg, told_cons, List.append_assoc]
    · intro x u hx
      obtain ⟨h1, h2⟩ := eH x u hx
      rw [upd_ne h1]
      exact e4 _ _ (by rw [upd_ne h1]; exact h2)
    · rw [upd_upd]
      refine (desk_any (u := hid fp ((acc ++ ((ans.length : Int) :: ans)).map V.int)) hF hK).mono (ex_upd fun x u hx h => e4 _ _ (by rw [upd_ne hx]; exact h))
theorem ints_at {l : List Int} {i : Nat} {z : Int} (h : l[i]? = some z) : (l.map V.int)[i]? = some (.int z) := by
  rw [List.getElem?_map, h]
  rfl
theorem drop_at {l : List Int} {m : Nat} {z : Int} {r : List Int} (h : l.drop m = z :: r) : l[m]? = some z ∧ l.drop (m + 1) = r ∧ m < l.length := by
  have h1 : m < l.length := by
    rcases Nat.lt_or_ge m l.length with q | q
    · exact q
    · rw [List.drop_eq_nil_of_le q] at h
      cases h
  rw [List.drop_eq_getElem_cons h1] at h
  injection h with h2 h3
  exact ⟨by rw [List.getElem?_eq_getElem h1, h2], h3, h1⟩
section
variable {P : Program} {w : World} {K : PySem.W.Frag} {mg : Str → Option Value} {base : Heap} {d : Ads}
/-! ### answers -/
theorem sc_answers : FnScope ["calls", "desk", "found", "at", "call", "end", "one", "n"] ["calls"] (defScope s_answers) := ⟨rfl, rfl, rfl, by decide +kernel, rfl, by decide +kernel, by decide +kernel⟩
def spAnswers (K : PySem.W.Frag) : Sp := fun vs H Q _ => ∃ (a : Addr) (l : List Int), vs = [.ref a] ∧ SqL K H a (l.map V.int) ∧ PyMu14.answers_asked l = true ∧ ∀ (H' : Hp) (p : Addr), H' p = some (.lst ((PyMu14.answers l).map V.int)) → Q (.ref p) H'
theorem ok_answers (T : Txt K mg d) {fd : FuncData} (F : Fun K "answers" "answers" s_answers d.f_answers fd) : FnOk P w K mg base CX0 16 d.f_answers fd ["calls"] (spAnswers K) := by
  obtain ⟨fdI, GI, bI⟩ := ok_Desk_init (P := P) (w := w) (base := base) T
  obtain ⟨fdR, GR, bR⟩ := ok_Desk_read (P := P) (w := w) (base := base) T
  obtain ⟨fdA, GA, bA⟩ := ok_Desk_answer (P := P) (w := w) (base := base) T
  refine F.ok sc_answers (fun vs H Q E h => ?_) (fun cdv A outer s H vs Q E hr h => ?_)
  · obtain ⟨a, l, rfl, _⟩ := h
    rfl
  · obtain ⟨a, l, rfl, hx, hask, k⟩ := h
    have hr2 : Room 2 _ := hr.mono (by decide)
    have hr8 : Room 8 _ := hr.mono (by decide)
    have hr14 : Room 14 _ := hr.mono (by decide)
    refine' ⟨_, pss_cons ?s1 (pss_cons ?s2 (pss_cons ?s3 (pss_cons ?s4 (pss_one (ps_ret (pv 2)))))), ?_⟩
    case s1 => exact ps_set (i := 1) sc_answers.nd rfl (Or.inl rfl) (pe_make0 T.mk_Desk GI hr2 rfl T.g_Desk bI .nil pass0)
    case s2 => exact ps_set (i := 2) sc_answers.nd rfl (Or.inl rfl) (pe_lst pa_nil)
    case s3 => exact ps_set (i := 3) sc_answers.nd rfl (Or.inl rfl) pe_int
    case s4 =>
      refine' ps_while PassesOwn.never ?w1 (pss_cons ?b1 (pss_cons ?b2 (pss_cons (ps_if ?c1 (pss_cons ?d1 (pss_cons ?d2 (pss_one ?d3))) (pss_cons ?e1 (pss_cons (ps_if ?e2 (pss_cons ?e3 (pss_one ?e4)) pss_nil) (pss_one ?e5)))) (pss_cons ?b4 (pss_one ?b5)))))
      case w1 => exact pt_cmpR op_lt (pv 3) (pe_callB call_len_seq (by rfl) T.b_len PySem.boot_len (pa_cons (pv 0) pa_nil)) (nomark _)
      case b1 => exact ps_set (i := 4) sc_answers.nd rfl (Or.inl rfl) (pe_ix ix_list (pv 0) (pv 3) (fun _ _ => rfl))
      case b2 => exact ps_set (i := 3) sc_answers.nd rfl (Or.inl rfl) (pe_op op_add (pv 3) pe_int)
      case c1 => exact pt_cmpR op_eq (pv 4) (pe_gi T.k_READ rfl) (nomark _)
      case d1 => exact ps_set (i := 5) sc_answers.nd rfl (Or.inl rfl) (pe_op op_add (pe_op op_add (pv 3) pe_int) (pe_ix ix_list (pv 0) (pv 3) (fun _ _ => rfl)))
      case d2 => exact ps_set (i := 6) sc_answers.nd rfl (Or.inl rfl) (pe_hide (pe_meth (pv 1) T.cl_Desk T.me_Desk_read GR hr8 bR .nil pass0 (pa_cons (pe_slice sl_list (pv 0) (po_some (pe_op op_add (pv 3) pe_int)) (po_some (pv 5))) pa_nil)))
      case d3 => exact ps_set (i := 3) sc_answers.nd rfl (Or.inl rfl) (pv 5)
      case e1 => exact ps_set (i := 7) sc_answers.nd rfl (Or.inl rfl) pe_int
      case e2 => exact pt_cmpR op_in_seq (pv 4) (pe_glob (v := .ref d.wWITH) rfl T.g_WITH_NUMBER rfl) (by rfl)
      case e3 => exact ps_set (i := 7) sc_answers.nd rfl (Or.inl rfl) (pe_ix ix_list (pv 0) (pv 3) (fun _ _ => rfl))
      case e4 => exact ps_set (i := 3) sc_answers.nd rfl (Or.inl rfl) (pe_op op_add (pv 3) pe_int)
      case e5 => exact ps_set (i := 6) sc_answers.nd rfl (Or.inl rfl) (pe_hide (pe_meth (pv 1) T.cl_Desk T.me_Desk_answer GA hr14 bA .nil pass0 (pa_cons (pv 4) (pa_cons (pv 7) pa_nil))))
      case b4 => exact ps_expr (pe_bm PySem.F.plainAttrs_list PySem.F.slot_list_append PySem.F.type_list_append mt_append (pv 2) (pa_cons (pe_callB call_len_seq (by rfl) T.b_len PySem.boot_len (pa_cons (pv 6) pa_nil)) pa_nil))
      case b5 => exact ps_expr (pe_bm PySem.F.plainAttrs_list PySem.F.slot_list_extend PySem.F.type_list_extend mt_extend (pv 2) (pa_cons (pv 6) pa_nil))
    obtain ⟨raw, hraw, hall, h60, hans⟩ := asked_is hask
    -- desk = Desk()
    intro b dx nx nd ne
    refine ⟨b, dx, rfl, upd_same, fun H1 f1 hD1 => ⟨rfl, ?_⟩⟩
    have e1 : Ex H H1 := fun y o hy => f1 y o (by rw [upd_ne (ne_of_none hy nx), upd_ne (ne_of_none hy nd)]; exact hy) (ne_of_none hy nx)
    refine q_asgL (xs := []) (el_lst ea_nil (by show 0 ≤ 100000; decide)) fun fp H2 hfp e2 hfp2 => ?_
    have hfpH : H fp = none := fresh_back e1 hfp
    refine q_asg (v := nv 0) ev_c fun H3 e3 => ?_
    have hbf : b ≠ fp := fun z => by
      obtain ⟨_, _, _, h⟩ := hD1
      rw [z, hfp] at h
      cases h
    refine q_while (Lp d l a b fp H (PyMu14.answers l)) (l.length - 0) ⟨0, l.length, raw, none, [], none, none, none, none, rfl, rfl, Nat.zero_le _, hraw, hall, by simp; omega, by rw [hans]; rfl, (e1.trans e2).trans e3, e3 _ _ hfp2, ?_⟩ ?_
    · obtain ⟨dx1, m1, t1, h⟩ := hD1
      exact ⟨dx1, m1, t1, by rw [upd_ne hbf]; exact e3 _ _ (e2 _ _ h)⟩
    · rintro μ σ' H4 ⟨m, f, cs, o, acc, o4, o5, o6, o7, rfl, rfl, hm, hc, hca, hz, hg, eH4, hfp4, hD4⟩
      refine ⟨decide (m < l.length), et_test (ev_ltN (i := m) (j := l.length) (ev_var rfl) (ev_cast (ev_lenS (ev_var rfl) (.inl (ex_l eH4 hx))) (by rw [List.length_map]; rfl))), fun hb H5 e5 => ?_, fun hb H5 e5 => ?_⟩
      · have hlt : m < l.length := of_decide_eq_true hb
        refine ⟨fun σ2 H2 => ∃ μ', μ' < l.length - m ∧ Lp d l a b fp H (PyMu14.answers l) μ' σ2 H2, fun _ _ h => h, ?_⟩
        obtain ⟨p, r, hdrop⟩ : ∃ p r, l.drop m = p :: r := by
          cases hh : l.drop m with
          | nil =>
            have := List.drop_eq_nil_iff.mp hh
            omega
          | cons p r => exact ⟨p, r, rfl⟩
        obtain ⟨hat0, hdrop1, _⟩ := drop_at hdrop
        rw [hdrop] at hc
        obtain ⟨f', Tn⟩ := turn_of hc hca
        -- a call on the desk, by what it promises: the tail follows
        have goOn : ∀ {H6 Hc H8 : Hp} {m' : Nat} {cs' : Raw} {o' : Option Mu14.State} {ans : List Int} {q : Addr} {v4 v5 v7 : Option V} {D : Ends}, Ex H H6 → Ex H4 H6 → Ex (upd H6 fp (hid fp (acc.map V.int))) Hc → Off b Hc H8 → DeskAt d H8 b o' → H8 q = some (.lst (ans.map V.int)) → ans.length ≤ 20 → m' ≤ l.length → m < m' → PyFlat.calls PyMu14.shape f' (l.drop m') = some cs' → cs'.all Mu14Neutral.asked1 = true → cs.length = cs'.length + 1 →
            PyFlat.played Mu14Neutral.step o cs = ans :: PyFlat.played Mu14Neutral.step o' cs' → (∀ σ' H', (∃ μ', μ' < l.length - m ∧ Lp d l a b fp H (PyMu14.answers l) μ' σ' H') → D.nx σ' H') →
            H8 fp = some (hid fp (acc.map V.int)) ∧ TL K D [some (.ref a), some (.ref b), some (.ref fp), some (nv m'), v4, v5, some (.ref q), v7] (upd H8 fp (.lst (acc.map V.int))) := by
          intro H6 Hc H8 m' cs' o' ans q v4 v5 v7 D eH6 e46 ec f8 hD8 hq hal hm' hmm hc' hca' hcl hpl hDn
          have hF8 : H8 fp = some (hid fp (acc.map V.int)) := f8 _ _ (ec _ _ upd_same) (Ne.symm hbf)
          refine ⟨hF8, tail_ok hDn hm' (by omega) hc' hca' (by omega) hal (by rw [hg, hpl]) (fun y u hy => ⟨ne_of_none hy hfpH, f8 _ _ (ec _ _ ?_) (ne_of_none hy nx)⟩) hF8 hD8 hq⟩
          rw [upd_ne (ne_of_none hy hfpH)]
          exact eH6 _ _ hy
        have hidE : ∀ {H6 : Hp}, Ex H H6 → Ex H (upd H6 fp (hid fp (acc.map V.int))) := fun {H6} e y u hy => by
          rw [upd_ne (ne_of_none hy hfpH)]
          exact e _ _ hy
        have deskE : ∀ {H6 : Hp}, Ex H4 H6 → DeskAt d (upd H6 fp (hid fp (acc.map V.int))) b o := fun {H6} e => hD4.mono (ex_upd fun y u _ h => e y u h)
        have eH5 := eH4.trans e5
        have callE : ∀ {c : Nat}, p = (c : Int) → Ev (tOp (rIxL K) (tVar 0) (tVar 3)) [some (.ref a), some (.ref b), some (.ref fp), some (nv m), o4, o5, o6, o7] H5 (nv c) := fun {c} hp => by
          rw [hp] at hat0
          exact ev_op (ev_var rfl) (ev_var rfl) (rv_ixL (ex_l eH5 hx) (atI_nat (j := m) (ints_at hat0)))
        cases Tn with
        | row k r' txt cs' _ hk htxt h2000 hc' hca' hcl hpl =>
          obtain ⟨hat1, hdrop2, hlt1⟩ := drop_at hdrop1
          have hlen2 : r'.length = l.length - (m + 1 + 1) := by
            rw [← hdrop2, List.length_drop]
          have hend : m + 1 + 1 + k ≤ l.length := by omega
          refine q_asg (callE (c := 0) rfl) fun H6 e6 => ?_
          refine q_asg (ev_addN (i := m) (j := 1) (ev_var rfl) ev_c) fun H7 e7 => ?_
          refine q_if (et_test (ev_eqN (i := 0) (j := 0) (ev_var rfl) ev_c)) (fun _ H8 e8 => ?_) (fun c H8 e8 => by simp at c)
          have e58 := (e6.trans e7).trans e8
          have eH8 := eH5.trans e58
          refine q_asg (ev_addN (i := m + 1 + 1) (j := k) (ev_addN (i := m + 1) (j := 1) (ev_var rfl) ev_c) (ev_op (ev_var rfl) (ev_var rfl) (rv_ixL (ex_l eH8 hx) (atI_nat (j := m + 1) (ints_at hat1))))) fun H9 e9 => ?_
          have e49 := (e5.trans e58).trans e9
          have eH9 := eH8.trans e9
          have hfp9 := e49 _ _ hfp4
          have hDh := deskE e49
          obtain ⟨bdx, bx, by', bz, hbb⟩ := hDh.at
          have hcut : cutV (l.map V.int) (some ((m + 1 + 1 : Nat) : Int)) (some ((m + 1 + 1 + k : Nat) : Int)) = nvs txt := by
            rw [cut_to _ _ _ (by rw [List.length_map]; exact hend) (by omega), ← List.map_drop, hdrop2, ← List.map_take, Nat.add_sub_cancel_left, htxt, List.map_map]
            rfl
          refine ⟨fp, _, hfp9, _, rfl, b, bdx, _, rfl, hbb, lk_Desk_no_read _ _ _, ?_⟩
          refine el_cast (el_sl (te := tVar 0) (tl := tPart (tOp (rI0 fun i j => .int (i + j)) (tVar 3) (tC (.int 1)))) (th := tPart (tVar 5)) (K := K) (ev_var rfl) (eo_some (ev_addN (i := m + 1) (j := 1) (ev_var rfl) ev_c)) (eo_some (i := ((m + 1 + 1 + k : Nat) : Int)) (ev_var rfl)) (ex_l (hidE eH9) hx)) hcut _ (Ex.refl _) _ fun sp Hc hsp ec hspc => ?_
          refine ⟨b, sp, o, txt, rfl, hDh.mono ec, hspc, h2000, fun v H10 f10 hD10 hv => ?_⟩
          obtain ⟨q, rfl, hq⟩ := hv
          refine ⟨f10 _ _ (ec _ _ upd_same) (Ne.symm hbf), _, rfl, ?_⟩
          exact (goOn (m' := m + 1 + 1 + k) eH9 e49 ec f10 hD10 hq (ans_len (desk_sok hDh)) hend (by omega) (by rw [← List.drop_drop, hdrop2]; exact hc') hca' hcl (hpl o) (fun _ _ h => h)).2
        | num c n t' cs' _ hwn hc0 hc' hca' hcl hpl =>
          obtain ⟨hat1, hdrop2, hlt1⟩ := drop_at hdrop1
          refine q_asg (callE rfl) fun H6 e6 => ?_
          refine q_asg (ev_addN (i := m) (j := 1) (ev_var rfl) ev_c) fun H7 e7 => ?_
          refine q_if (et_test (ev_eqN (i := c) (j := 0) (ev_var rfl) ev_c)) (fun cc H8 e8 => absurd (of_decide_eq_true cc) hc0) (fun _ H8 e8 => ?_)
          have e58 := (e6.trans e7).trans e8
          refine q_asg (v := nv 0) ev_c fun H9 e9 => ?_
          refine q_if (et_test (ev_op (ev_var rfl) ev_c (rv_isT (T.t_WITH_NUMBER H9) rfl rfl))) (fun _ H10 e10 => ?_) (fun cc H10 e10 => by rw [in_with, hwn] at cc; cases cc)
          have e510 := (e58.trans e9).trans e10
          have eH10 := eH5.trans e510
          refine q_asg (v := nv n) (ev_op (ev_var rfl) (ev_var rfl) (rv_ixL (ex_l eH10 hx) (atI_nat (j := m + 1) (ints_at hat1)))) fun H11 e11 => ?_
          refine s_asg (ev_addN (i := m + 1) (j := 1) (ev_var rfl) ev_c) fun H12 e12 => ?_
          have e412 := ((e5.trans e510).trans e11).trans e12
          have eH12 := (eH10.trans e11).trans e12
          have hDh := deskE e412
          obtain ⟨bdx, bx, by', bz, hbb⟩ := hDh.at
          refine ⟨fp, _, e412 _ _ hfp4, _, rfl, b, bdx, _, rfl, hbb, lk_Desk_no_answer _ _ _, _, rfl, _, rfl, b, o, c, n, rfl, hDh, fun v H13 f13 hD13 hv => ?_⟩
          obtain ⟨q, rfl, hq⟩ := hv
          exact goOn (m' := m + 1 + 1) eH12 e412 (Ex.refl _) f13 hD13 hq (ans_len (desk_sok hDh)) (by omega) (by omega) (by rw [hdrop2]; exact hc') hca' hcl (hpl o) (fun _ _ h => h)
        | bare c t' cs' _ hwn hc0 hc' hca' hcl hpl =>
          refine q_asg (callE rfl) fun H6 e6 => ?_
          refine q_asg (ev_addN (i := m) (j := 1) (ev_var rfl) ev_c) fun H7 e7 => ?_
          refine q_if (et_test (ev_eqN (i := c) (j := 0) (ev_var rfl) ev_c)) (fun cc H8 e8 => absurd (of_decide_eq_true cc) hc0) (fun _ H8 e8 => ?_)
          have e58 := (e6.trans e7).trans e8
          refine q_asg (v := nv 0) ev_c fun H9 e9 => ?_
          refine q_if (et_test (ev_op (ev_var rfl) ev_c (rv_isT (T.t_WITH_NUMBER H9) rfl rfl))) (fun cc H10 e10 => by rw [in_with, hwn] at cc; cases cc) (fun _ H10 e10 => ?_)
          have e510 := (e58.trans e9).trans e10
          have eH10 := eH5.trans e510
          have e410 := e5.trans e510
          have hDh := deskE e410
          obtain ⟨bdx, bx, by', bz, hbb⟩ := hDh.at
          refine ⟨fp, _, e410 _ _ hfp4, _, rfl, b, bdx, _, rfl, hbb, lk_Desk_no_answer _ _ _, _, rfl, _, rfl, b, o, c, 0, rfl, hDh, fun v H13 f13 hD13 hv => ?_⟩
          obtain ⟨q, rfl, hq⟩ := hv
          exact goOn (m' := m + 1) eH10 e410 (Ex.refl _) f13 hD13 hq (ans_len (desk_sok hDh)) (by omega) (by omega) (by rw [hdrop1]; exact hc') hca' hcl (hpl o) (fun _ _ h => h)
      · have hge : ¬ m < l.length := of_decide_eq_false hb
        have hnil : l.drop m = [] := List.drop_eq_nil_of_le (by omega)
        rw [hnil] at hc
        rw [calls_nil hc] at hg
        refine s_ret (ev_var rfl) fun H6 e6 => k H6 fp ?_
        rw [hg]
        show H6 fp = some (.lst ((acc ++ []).map V.int))
        rw [List.append_nil]
        exact e6 _ _ (e5 _ _ hfp4)
theorem fin {fa : Addr} (T : Txt K mg d) (hmg : mg "answers" = some (.ref fa)) : ∃ fd : FuncData, (∀ (s : Shared) (us : List Value), us.length = (["calls"] : List Str).length → BindsTo s fd ⟨us, []⟩ ((["calls"] : List Str).zip us)) ∧ ∀ base : Heap, K.In base → base.Ns mainGlobals mg → FnOk P w K mg base CX0 16 fa fd ["calls"] (spAnswers K) := by
  have e := hmg.symm.trans T.g_answers
  cases e
  obtain ⟨fd, F, _⟩ := T.fn_answers
  refine ⟨fd, ?_, fun base _ _ => ok_answers T F⟩
  obtain ⟨oc, od, kV, doc, pm, an, cdv, ct, osl, rfl, _⟩ := F.ex
  exact fun s us hu => match us, hu with | [_], _ => .of_eq rfl
end
end G

namespace G
open PySem PySem.Spec PyProof.Rows L2 Evl
/-- an error of the class at S is what «except S» names -/
theorem exm_self {K : PySem.W.Frag} {S : Addr} (h1 : PySem.W.subIn K (.ref S) (.type "BaseException") = some true) (h2 : PySem.W.isClsIn K S = true) (h3 : PySem.W.typeIn K (.ref S) = some (.type "type")) (h4 : PySem.W.subIn K (.ref S) (.ref S) = some true) :
    PySem.W.exmOne K (.ref S) (.ref S) = some true := by
  have e1 : (PySem.W.subIn K (.ref S) (.type "BaseException") == some true) = true := by rw [h1] <;> rfl
  have e2 : ((PySem.W.clsIn K S).isSome && PySem.W.typeIn K (.ref S) == some (.type "type")) = true := by
    have h2' : (PySem.W.clsIn K S).isSome = true := h2
    rw [h2', h3] <;> rfl
  show (if (PySem.W.subIn K (.ref S) (.type "BaseException") == some true) = true then (if ((PySem.W.clsIn K S).isSome && PySem.W.typeIn K (.ref S) == some (.type "type")) = true then PySem.W.subIn K (.ref S) (.ref S) else none) else none) = some true
  rw [if_pos e1, if_pos e2]
  exact h4
theorem fnAt_mk {K : PySem.W.Frag} {x qual : Str} {st : Stmt} {f : Addr} {ps : List Str} {oc : Value} {od an : Option Addr} {osl : Array (Option Value)} {kV doc pm cdv ct : Value} (l : K.lookup f = some ⟨oc, od, .func (PySem.W.fnOf x qual (defArgs st) (defBody st) (defScope st) .none kV doc pm an cdv ct), osl⟩)
    (c : PySem.W.codeIn K cdv qual = true) (k : PySem.W.keepIn K (.ref f) = true)
    (h : ∀ (kV doc pm : Value) (an : Option Addr) (cdv ct : Value) (us : List Value), us.length = ps.length → bindArgs (PySem.W.fnOf x qual (defArgs st) (defBody st) (defScope st) .none kV doc pm an cdv ct) ⟨us, []⟩ = pure (ps.zip us)) : FnAt K x qual st f ps :=
  ⟨_, fun_mk l c k, (fun_mk l c k).binds h⟩
theorem txt_mk {K : PySem.W.Frag} {h : Heap} {mg : Str → Option Value} (X : K.In h) (G : h.Ns mainGlobals mg)
    {cUse cWorks cMoment cTold cWrong cBuilder cRefused cDesk m_Use_init m_Use_does_burn m_Works_init m_Works_wanted m_Works_given_by m_Moment_init m_Moment_empty m_Told_init m_Wrong_init m_Builder_init m_Builder_is_there m_Builder_are_too_many m_Builder_fault_of m_Builder_take m_Builder_made m_Refused_init m_Desk_init m_Desk_read m_Desk_passes m_Desk_hour m_Desk_look m_Desk_wanted_in m_Desk_best m_Desk_plan m_Desk_follow m_Desk_lasts m_Desk_told_by_number m_Desk_told m_Desk_answer f_beginning f_charged f_hour_passed f_state_of f_continued f_best_plan f_parted f_is_name f_is_number f_number_of f_is_within f_is_of f_told_word f_has_form f_are_within f_read_works f_want f_answers wWORDS wWITH : Addr}
    {od_m_Use_init an_m_Use_init : Option Addr} {sl_m_Use_init : Array (Option Value)} {oc_m_Use_init kv_m_Use_init dc_m_Use_init pm_m_Use_init cd_m_Use_init ct_m_Use_init : Value}
    {od_m_Use_does_burn an_m_Use_does_burn : Option Addr} {sl_m_Use_does_burn : Array (Option Value)} {oc_m_Use_does_burn kv_m_Use_does_burn dc_m_Use_does_burn pm_m_Use_does_burn cd_m_Use_does_burn ct_m_Use_does_burn : Value}
    {od_m_Works_init an_m_Works_init : Option Addr} {sl_m_Works_init : Array (Option Value)} {oc_m_Works_init kv_m_Works_init dc_m_Works_init pm_m_Works_init cd_m_Works_init ct_m_Works_init : Value}
    {od_m_Works_wanted an_m_Works_wanted : Option Addr} {sl_m_Works_wanted : Array (Option Value)} {oc_m_Works_wanted kv_m_Works_wanted dc_m_Works_wanted pm_m_Works_wanted cd_m_Works_wanted ct_m_Works_wanted : Value}
    {od_m_Works_given_by an_m_Works_given_by : Option Addr} {sl_m_Works_given_by : Array (Option Value)} {oc_m_Works_given_by kv_m_Works_given_by dc_m_Works_given_by pm_m_Works_given_by cd_m_Works_given_by ct_m_Works_given_by : Value}
    {od_m_Moment_init an_m_Moment_init : Option Addr} {sl_m_Moment_init : Array (Option Value)} {oc_m_Moment_init kv_m_Moment_init dc_m_Moment_init pm_m_Moment_init cd_m_Moment_init ct_m_Moment_init : Value}
    {od_m_Moment_empty an_m_Moment_empty : Option Addr} {sl_m_Moment_empty : Array (Option Value)} {oc_m_Moment_empty kv_m_Moment_empty dc_m_Moment_empty pm_m_Moment_empty cd_m_Moment_empty ct_m_Moment_empty : Value}
    {od_m_Told_init an_m_Told_init : Option Addr} {sl_m_Told_init : Array (Option Value)} {oc_m_Told_init kv_m_Told_init dc_m_Told_init pm_m_Told_init cd_m_Told_init ct_m_Told_init : Value}
    {nm_Wrong q_Wrong : Str} {N_Wrong : Addr} {bs_Wrong : List Value} {sn_Wrong : List Str} {sub_Wrong : List Value} {ab_Wrong : Bool} {col_Wrong : Option Bool} {dd_Wrong : Option Addr} {x0_Wrong x1_Wrong x2_Wrong x3_Wrong x5_Wrong : Option Value}
    {od_m_Wrong_init an_m_Wrong_init : Option Addr} {sl_m_Wrong_init : Array (Option Value)} {oc_m_Wrong_init kv_m_Wrong_init dc_m_Wrong_init pm_m_Wrong_init cd_m_Wrong_init ct_m_Wrong_init : Value}
    {od_m_Builder_init an_m_Builder_init : Option Addr} {sl_m_Builder_init : Array (Option Value)} {oc_m_Builder_init kv_m_Builder_init dc_m_Builder_init pm_m_Builder_init cd_m_Builder_init ct_m_Builder_init : Value}
    {od_m_Builder_is_there an_m_Builder_is_there : Option Addr} {sl_m_Builder_is_there : Array (Option Value)} {oc_m_Builder_is_there kv_m_Builder_is_there dc_m_Builder_is_there pm_m_Builder_is_there cd_m_Builder_is_there ct_m_Builder_is_there : Value}
    {od_m_Builder_are_too_many an_m_Builder_are_too_many : Option Addr} {sl_m_Builder_are_too_many : Array (Option Value)} {oc_m_Builder_are_too_many kv_m_Builder_are_too_many dc_m_Builder_are_too_many pm_m_Builder_are_too_many cd_m_Builder_are_too_many ct_m_Builder_are_too_many : Value}
    {od_m_Builder_fault_of an_m_Builder_fault_of : Option Addr} {sl_m_Builder_fault_of : Array (Option Value)} {oc_m_Builder_fault_of kv_m_Builder_fault_of dc_m_Builder_fault_of pm_m_Builder_fault_of cd_m_Builder_fault_of ct_m_Builder_fault_of : Value}
    {od_m_Builder_take an_m_Builder_take : Option Addr} {sl_m_Builder_take : Array (Option Value)} {oc_m_Builder_take kv_m_Builder_take dc_m_Builder_take pm_m_Builder_take cd_m_Builder_take ct_m_Builder_take : Value}
    {od_m_Builder_made an_m_Builder_made : Option Addr} {sl_m_Builder_made : Array (Option Value)} {oc_m_Builder_made kv_m_Builder_made dc_m_Builder_made pm_m_Builder_made cd_m_Builder_made ct_m_Builder_made : Value}
    {nm_Refused q_Refused : Str} {N_Refused : Addr} {bs_Refused : List Value} {sn_Refused : List Str} {sub_Refused : List Value} {ab_Refused : Bool} {col_Refused : Option Bool} {dd_Refused : Option Addr} {x0_Refused x1_Refused x2_Refused x3_Refused x5_Refused : Option Value}
    {od_m_Refused_init an_m_Refused_init : Option Addr} {sl_m_Refused_init : Array (Option Value)} {oc_m_Refused_init kv_m_Refused_init dc_m_Refused_init pm_m_Refused_init cd_m_Refused_init ct_m_Refused_init : Value}
    {od_m_Desk_init an_m_Desk_init : Option Addr} {sl_m_Desk_init : Array (Option Value)} {oc_m_Desk_init kv_m_Desk_init dc_m_Desk_init pm_m_Desk_init cd_m_Desk_init ct_m_Desk_init : Value}
    {od_m_Desk_read an_m_Desk_read : Option Addr} {sl_m_Desk_read : Array (Option Value)} {oc_m_Desk_read kv_m_Desk_read dc_m_Desk_read pm_m_Desk_read cd_m_Desk_read ct_m_Desk_read : Value}
    {od_m_Desk_passes an_m_Desk_passes : Option Addr} {sl_m_Desk_passes : Array (Option Value)} {oc_m_Desk_passes kv_m_Desk_passes dc_m_Desk_passes pm_m_Desk_passes cd_m_Desk_passes ct_m_Desk_passes : Value}
    {od_m_Desk_hour an_m_Desk_hour : Option Addr} {sl_m_Desk_hour : Array (Option Value)} {oc_m_Desk_hour kv_m_Desk_hour dc_m_Desk_hour pm_m_Desk_hour cd_m_Desk_hour ct_m_Desk_hour : Value}
    {od_m_Desk_look an_m_Desk_look : Option Addr} {sl_m_Desk_look : Array (Option Value)} {oc_m_Desk_look kv_m_Desk_look dc_m_Desk_look pm_m_Desk_look cd_m_Desk_look ct_m_Desk_look : Value}
    {od_m_Desk_wanted_in an_m_Desk_wanted_in : Option Addr} {sl_m_Desk_wanted_in : Array (Option Value)} {oc_m_Desk_wanted_in kv_m_Desk_wanted_in dc_m_Desk_wanted_in pm_m_Desk_wanted_in cd_m_Desk_wanted_in ct_m_Desk_wanted_in : Value}
    {od_m_Desk_best an_m_Desk_best : Option Addr} {sl_m_Desk_best : Array (Option Value)} {oc_m_Desk_best kv_m_Desk_best dc_m_Desk_best pm_m_Desk_best cd_m_Desk_best ct_m_Desk_best : Value}
    {od_m_Desk_plan an_m_Desk_plan : Option Addr} {sl_m_Desk_plan : Array (Option Value)} {oc_m_Desk_plan kv_m_Desk_plan dc_m_Desk_plan pm_m_Desk_plan cd_m_Desk_plan ct_m_Desk_plan : Value}
    {od_m_Desk_follow an_m_Desk_follow : Option Addr} {sl_m_Desk_follow : Array (Option Value)} {oc_m_Desk_follow kv_m_Desk_follow dc_m_Desk_follow pm_m_Desk_follow cd_m_Desk_follow ct_m_Desk_follow : Value}
    {od_m_Desk_lasts an_m_Desk_lasts : Option Addr} {sl_m_Desk_lasts : Array (Option Value)} {oc_m_Desk_lasts kv_m_Desk_lasts dc_m_Desk_lasts pm_m_Desk_lasts cd_m_Desk_lasts ct_m_Desk_lasts : Value}
    {od_m_Desk_told_by_number an_m_Desk_told_by_number : Option Addr} {sl_m_Desk_told_by_number : Array (Option Value)} {oc_m_Desk_told_by_number kv_m_Desk_told_by_number dc_m_Desk_told_by_number pm_m_Desk_told_by_number cd_m_Desk_told_by_number ct_m_Desk_told_by_number : Value}
    {od_m_Desk_told an_m_Desk_told : Option Addr} {sl_m_Desk_told : Array (Option Value)} {oc_m_Desk_told kv_m_Desk_told dc_m_Desk_told pm_m_Desk_told cd_m_Desk_told ct_m_Desk_told : Value}
    {od_m_Desk_answer an_m_Desk_answer : Option Addr} {sl_m_Desk_answer : Array (Option Value)} {oc_m_Desk_answer kv_m_Desk_answer dc_m_Desk_answer pm_m_Desk_answer cd_m_Desk_answer ct_m_Desk_answer : Value}
    {od_f_beginning an_f_beginning : Option Addr} {sl_f_beginning : Array (Option Value)} {oc_f_beginning kv_f_beginning dc_f_beginning pm_f_beginning cd_f_beginning ct_f_beginning : Value}
    {od_f_charged an_f_charged : Option Addr} {sl_f_charged : Array (Option Value)} {oc_f_charged kv_f_charged dc_f_charged pm_f_charged cd_f_charged ct_f_charged : Value}
    {od_f_hour_passed an_f_hour_passed : Option Addr} {sl_f_hour_passed : Array (Option Value)} {oc_f_hour_passed kv_f_hour_passed dc_f_hour_passed pm_f_hour_passed cd_f_hour_passed ct_f_hour_passed : Value}
    {od_f_state_of an_f_state_of : Option Addr} {sl_f_state_of : Array (Option Value)} {oc_f_state_of kv_f_state_of dc_f_state_of pm_f_state_of cd_f_state_of ct_f_state_of : Value}
    {od_f_continued an_f_continued : Option Addr} {sl_f_continued : Array (Option Value)} {oc_f_continued kv_f_continued dc_f_continued pm_f_continued cd_f_continued ct_f_continued : Value}
    {od_f_best_plan an_f_best_plan : Option Addr} {sl_f_best_plan : Array (Option Value)} {oc_f_best_plan kv_f_best_plan dc_f_best_plan pm_f_best_plan cd_f_best_plan ct_f_best_plan : Value}
    {od_f_parted an_f_parted : Option Addr} {sl_f_parted : Array (Option Value)} {oc_f_parted kv_f_parted dc_f_parted pm_f_parted cd_f_parted ct_f_parted : Value}
    {od_f_is_name an_f_is_name : Option Addr} {sl_f_is_name : Array (Option Value)} {oc_f_is_name kv_f_is_name dc_f_is_name pm_f_is_name cd_f_is_name ct_f_is_name : Value}
    {od_f_is_number an_f_is_number : Option Addr} {sl_f_is_number : Array (Option Value)} {oc_f_is_number kv_f_is_number dc_f_is_number pm_f_is_number cd_f_is_number ct_f_is_number : Value}
    {od_f_number_of an_f_number_of : Option Addr} {sl_f_number_of : Array (Option Value)} {oc_f_number_of kv_f_number_of dc_f_number_of pm_f_number_of cd_f_number_of ct_f_number_of : Value}
    {od_f_is_within an_f_is_within : Option Addr} {sl_f_is_within : Array (Option Value)} {oc_f_is_within kv_f_is_within dc_f_is_within pm_f_is_within cd_f_is_within ct_f_is_within : Value}
    {od_f_is_of an_f_is_of : Option Addr} {sl_f_is_of : Array (Option Value)} {oc_f_is_of kv_f_is_of dc_f_is_of pm_f_is_of cd_f_is_of ct_f_is_of : Value}
    {od_f_told_word an_f_told_word : Option Addr} {sl_f_told_word : Array (Option Value)} {oc_f_told_word kv_f_told_word dc_f_told_word pm_f_told_word cd_f_told_word ct_f_told_word : Value}
    {od_f_has_form an_f_has_form : Option Addr} {sl_f_has_form : Array (Option Value)} {oc_f_has_form kv_f_has_form dc_f_has_form pm_f_has_form cd_f_has_form ct_f_has_form : Value}
    {od_f_are_within an_f_are_within : Option Addr} {sl_f_are_within : Array (Option Value)} {oc_f_are_within kv_f_are_within dc_f_are_within pm_f_are_within cd_f_are_within ct_f_are_within : Value}
    {od_f_read_works an_f_read_works : Option Addr} {sl_f_read_works : Array (Option Value)} {oc_f_read_works kv_f_read_works dc_f_read_works pm_f_read_works cd_f_read_works ct_f_read_works : Value}
    {od_f_want an_f_want : Option Addr} {sl_f_want : Array (Option Value)} {oc_f_want kv_f_want dc_f_want pm_f_want cd_f_want ct_f_want : Value}
    {od_f_answers an_f_answers : Option Addr} {sl_f_answers : Array (Option Value)} {oc_f_answers kv_f_answers dc_f_answers pm_f_answers cd_f_answers ct_f_answers : Value}
    {t_HOURS_OF_DAY : Tok}
    {t_LINE_END : Tok}
    {t_BLANK : Tok}
    {t_MARK : Tok}
    {t_NOUGHT : Tok}
    {t_MOST_NAME : Tok}
    {t_MOST_FIGURES : Tok}
    {t_NO_WORD : Tok}
    {t_NOT_SO : Tok}
    {t_THERE : Tok}
    {t_OUTSIDE : Tok}
    {t_TOO_MANY : Tok}
    {t_LACKING : Tok}
    {t_MOST_HELD : Tok}
    {t_MOST_RETORTS : Tok}
    {t_MOST_LEAK : Tok}
    {t_MOST_HOURS : Tok}
    {t_MOST_GIVEN : Tok}
    {t_MOST_USES : Tok}
    {t_MOST_BURNT : Tok}
    {t_LAST_HOUR_reading : Tok}
    {t_BAD : Tok}
    {t_NO_TEXT : Tok}
    {t_NO_PLAN : Tok}
    {t_NO_WORKS : Tok}
    {t_LAST_HOUR_works : Tok}
    {t_MOST_PLANNED : Tok}
    {t_MOST_LASTING : Tok}
    {t_READ : Tok}
    {t_HOLDER : Tok}
    {t_RETORTS : Tok}
    {t_LEAK : Tok}
    {t_CHARGE : Tok}
    {t_USE : Tok}
    {tw0 tw1 tw2 tw3 tw4 tn0 tn1 tn2 tn3 : Tok}
    (g_Use : PySem.W.nsIn K mainGlobals "Use" = some (some (.ref cUse)))
    (in_Use : PySem.W.findIn K (.ref cUse) "__init__" = some (some (.ref m_Use_init)))
    (if_Use : PySem.W.isFn K (.ref m_Use_init) = true)
    (pg_Use : PySem.W.plainGet K cUse Str.empty = true)
    (hd_Use : PySem.W.hasDictIn K cUse = true)
    (po_Use : PySem.W.plainOver K cUse = true)
    (sa_Use : PySem.W.findIn K (.ref cUse) "__setattr__" = some (some (.builtin "object.__setattr__")))
    (mk_Use : PySem.W.makesIn K cUse = true)
    (kc_Use : PySem.W.keepIn K (.ref cUse) = true)
    (na_Use_name : PySem.W.findIn K (.ref cUse) "name" = some none)
    (na_Use_many : PySem.W.findIn K (.ref cUse) "many" = some none)
    (na_Use_begin : PySem.W.findIn K (.ref cUse) "begin" = some none)
    (na_Use_end : PySem.W.findIn K (.ref cUse) "end" = some none)
    (l_m_Use_init : K.lookup m_Use_init = some ⟨oc_m_Use_init, od_m_Use_init, .func (PySem.W.fnOf "__init__" "Use.__init__" (defArgs s_Use_init) (defBody s_Use_init) (defScope s_Use_init) .none kv_m_Use_init dc_m_Use_init pm_m_Use_init an_m_Use_init cd_m_Use_init ct_m_Use_init), sl_m_Use_init⟩)
    (c_m_Use_init : PySem.W.codeIn K cd_m_Use_init "Use.__init__" = true)
    (k_m_Use_init : PySem.W.keepIn K (.ref m_Use_init) = true)
    (a_m_Use_does_burn : PySem.W.findIn K (.ref cUse) "does_burn" = some (some (.ref m_Use_does_burn)))
    (i_m_Use_does_burn : PySem.W.isFn K (.ref m_Use_does_burn) = true)
    (l_m_Use_does_burn : K.lookup m_Use_does_burn = some ⟨oc_m_Use_does_burn, od_m_Use_does_burn, .func (PySem.W.fnOf "does_burn" "Use.does_burn" (defArgs s_Use_does_burn) (defBody s_Use_does_burn) (defScope s_Use_does_burn) .none kv_m_Use_does_burn dc_m_Use_does_burn pm_m_Use_does_burn an_m_Use_does_burn cd_m_Use_does_burn ct_m_Use_does_burn), sl_m_Use_does_burn⟩)
    (c_m_Use_does_burn : PySem.W.codeIn K cd_m_Use_does_burn "Use.does_burn" = true)
    (k_m_Use_does_burn : PySem.W.keepIn K (.ref m_Use_does_burn) = true)
    (g_Works : PySem.W.nsIn K mainGlobals "Works" = some (some (.ref cWorks)))
    (in_Works : PySem.W.findIn K (.ref cWorks) "__init__" = some (some (.ref m_Works_init)))
    (if_Works : PySem.W.isFn K (.ref m_Works_init) = true)
    (pg_Works : PySem.W.plainGet K cWorks Str.empty = true)
    (hd_Works : PySem.W.hasDictIn K cWorks = true)
    (po_Works : PySem.W.plainOver K cWorks = true)
    (sa_Works : PySem.W.findIn K (.ref cWorks) "__setattr__" = some (some (.builtin "object.__setattr__")))
    (mk_Works : PySem.W.makesIn K cWorks = true)
    (kc_Works : PySem.W.keepIn K (.ref cWorks) = true)
    (na_Works_holds : PySem.W.findIn K (.ref cWorks) "holds" = some none)
    (na_Works_first : PySem.W.findIn K (.ref cWorks) "first" = some none)
    (na_Works_retorts : PySem.W.findIn K (.ref cWorks) "retorts" = some none)
    (na_Works_leak : PySem.W.findIn K (.ref cWorks) "leak" = some none)
    (na_Works_charge : PySem.W.findIn K (.ref cWorks) "charge" = some none)
    (na_Works_uses : PySem.W.findIn K (.ref cWorks) "uses" = some none)
    (l_m_Works_init : K.lookup m_Works_init = some ⟨oc_m_Works_init, od_m_Works_init, .func (PySem.W.fnOf "__init__" "Works.__init__" (defArgs s_Works_init) (defBody s_Works_init) (defScope s_Works_init) .none kv_m_Works_init dc_m_Works_init pm_m_Works_init an_m_Works_init cd_m_Works_init ct_m_Works_init), sl_m_Works_init⟩)
    (c_m_Works_init : PySem.W.codeIn K cd_m_Works_init "Works.__init__" = true)
    (k_m_Works_init : PySem.W.keepIn K (.ref m_Works_init) = true)
    (a_m_Works_wanted : PySem.W.findIn K (.ref cWorks) "wanted" = some (some (.ref m_Works_wanted)))
    (i_m_Works_wanted : PySem.W.isFn K (.ref m_Works_wanted) = true)
    (l_m_Works_wanted : K.lookup m_Works_wanted = some ⟨oc_m_Works_wanted, od_m_Works_wanted, .func (PySem.W.fnOf "wanted" "Works.wanted" (defArgs s_Works_wanted) (defBody s_Works_wanted) (defScope s_Works_wanted) .none kv_m_Works_wanted dc_m_Works_wanted pm_m_Works_wanted an_m_Works_wanted cd_m_Works_wanted ct_m_Works_wanted), sl_m_Works_wanted⟩)
    (c_m_Works_wanted : PySem.W.codeIn K cd_m_Works_wanted "Works.wanted" = true)
    (k_m_Works_wanted : PySem.W.keepIn K (.ref m_Works_wanted) = true)
    (a_m_Works_given_by : PySem.W.findIn K (.ref cWorks) "given_by" = some (some (.ref m_Works_given_by)))
    (i_m_Works_given_by : PySem.W.isFn K (.ref m_Works_given_by) = true)
    (l_m_Works_given_by : K.lookup m_Works_given_by = some ⟨oc_m_Works_given_by, od_m_Works_given_by, .func (PySem.W.fnOf "given_by" "Works.given_by" (defArgs s_Works_given_by) (defBody s_Works_given_by) (defScope s_Works_given_by) .none kv_m_Works_given_by dc_m_Works_given_by pm_m_Works_given_by an_m_Works_given_by cd_m_Works_given_by ct_m_Works_given_by), sl_m_Works_given_by⟩)
    (c_m_Works_given_by : PySem.W.codeIn K cd_m_Works_given_by "Works.given_by" = true)
    (k_m_Works_given_by : PySem.W.keepIn K (.ref m_Works_given_by) = true)
    (g_Moment : PySem.W.nsIn K mainGlobals "Moment" = some (some (.ref cMoment)))
    (in_Moment : PySem.W.findIn K (.ref cMoment) "__init__" = some (some (.ref m_Moment_init)))
    (if_Moment : PySem.W.isFn K (.ref m_Moment_init) = true)
    (pg_Moment : PySem.W.plainGet K cMoment Str.empty = true)
    (hd_Moment : PySem.W.hasDictIn K cMoment = true)
    (po_Moment : PySem.W.plainOver K cMoment = true)
    (sa_Moment : PySem.W.findIn K (.ref cMoment) "__setattr__" = some (some (.builtin "object.__setattr__")))
    (mk_Moment : PySem.W.makesIn K cMoment = true)
    (kc_Moment : PySem.W.keepIn K (.ref cMoment) = true)
    (na_Moment_hours : PySem.W.findIn K (.ref cMoment) "hours" = some none)
    (na_Moment_held : PySem.W.findIn K (.ref cMoment) "held" = some none)
    (na_Moment_left : PySem.W.findIn K (.ref cMoment) "left" = some none)
    (l_m_Moment_init : K.lookup m_Moment_init = some ⟨oc_m_Moment_init, od_m_Moment_init, .func (PySem.W.fnOf "__init__" "Moment.__init__" (defArgs s_Moment_init) (defBody s_Moment_init) (defScope s_Moment_init) .none kv_m_Moment_init dc_m_Moment_init pm_m_Moment_init an_m_Moment_init cd_m_Moment_init ct_m_Moment_init), sl_m_Moment_init⟩)
    (c_m_Moment_init : PySem.W.codeIn K cd_m_Moment_init "Moment.__init__" = true)
    (k_m_Moment_init : PySem.W.keepIn K (.ref m_Moment_init) = true)
    (a_m_Moment_empty : PySem.W.findIn K (.ref cMoment) "empty" = some (some (.ref m_Moment_empty)))
    (i_m_Moment_empty : PySem.W.isFn K (.ref m_Moment_empty) = true)
    (l_m_Moment_empty : K.lookup m_Moment_empty = some ⟨oc_m_Moment_empty, od_m_Moment_empty, .func (PySem.W.fnOf "empty" "Moment.empty" (defArgs s_Moment_empty) (defBody s_Moment_empty) (defScope s_Moment_empty) .none kv_m_Moment_empty dc_m_Moment_empty pm_m_Moment_empty an_m_Moment_empty cd_m_Moment_empty ct_m_Moment_empty), sl_m_Moment_empty⟩)
    (c_m_Moment_empty : PySem.W.codeIn K cd_m_Moment_empty "Moment.empty" = true)
    (k_m_Moment_empty : PySem.W.keepIn K (.ref m_Moment_empty) = true)
    (g_Told : PySem.W.nsIn K mainGlobals "Told" = some (some (.ref cTold)))
    (in_Told : PySem.W.findIn K (.ref cTold) "__init__" = some (some (.ref m_Told_init)))
    (if_Told : PySem.W.isFn K (.ref m_Told_init) = true)
    (pg_Told : PySem.W.plainGet K cTold Str.empty = true)
    (hd_Told : PySem.W.hasDictIn K cTold = true)
    (po_Told : PySem.W.plainOver K cTold = true)
    (sa_Told : PySem.W.findIn K (.ref cTold) "__setattr__" = some (some (.builtin "object.__setattr__")))
    (mk_Told : PySem.W.makesIn K cTold = true)
    (kc_Told : PySem.W.keepIn K (.ref cTold) = true)
    (na_Told_moment : PySem.W.findIn K (.ref cTold) "moment" = some none)
    (na_Told_given : PySem.W.findIn K (.ref cTold) "given" = some none)
    (na_Told_burnt : PySem.W.findIn K (.ref cTold) "burnt" = some none)
    (na_Told_leaked : PySem.W.findIn K (.ref cTold) "leaked" = some none)
    (na_Told_blown : PySem.W.findIn K (.ref cTold) "blown" = some none)
    (na_Told_short : PySem.W.findIn K (.ref cTold) "short" = some none)
    (l_m_Told_init : K.lookup m_Told_init = some ⟨oc_m_Told_init, od_m_Told_init, .func (PySem.W.fnOf "__init__" "Told.__init__" (defArgs s_Told_init) (defBody s_Told_init) (defScope s_Told_init) .none kv_m_Told_init dc_m_Told_init pm_m_Told_init an_m_Told_init cd_m_Told_init ct_m_Told_init), sl_m_Told_init⟩)
    (c_m_Told_init : PySem.W.codeIn K cd_m_Told_init "Told.__init__" = true)
    (k_m_Told_init : PySem.W.keepIn K (.ref m_Told_init) = true)
    (g_Wrong : PySem.W.nsIn K mainGlobals "Wrong" = some (some (.ref cWrong)))
    (in_Wrong : PySem.W.findIn K (.ref cWrong) "__init__" = some (some (.ref m_Wrong_init)))
    (xl_Wrong : K.lookup cWrong = some (excClassObj nm_Wrong q_Wrong cWrong N_Wrong bs_Wrong [.type "ValueError", .type "Exception", .type "BaseException", .type "object"] true sn_Wrong sub_Wrong ab_Wrong col_Wrong dd_Wrong x0_Wrong x1_Wrong x2_Wrong x3_Wrong x5_Wrong "ValueError.__new__"))
    (sa_Wrong : PySem.W.findIn K (.ref cWrong) "__setattr__" = some (some (.builtin "object.__setattr__")))
    (ga_Wrong : PySem.W.findIn K (.ref cWrong) "__getattribute__" = some (some (.builtin "BaseException.__getattribute__")))
    (gg_Wrong : PySem.W.findIn K (.ref cWrong) "__getattr__" = some none)
    (ex_Wrong : PySem.W.subIn K (.ref cWrong) (.type "BaseException") = some true)
    (ty_Wrong : PySem.W.typeIn K (.ref cWrong) = some (.type "type"))
    (kc_Wrong : PySem.W.keepIn K (.ref cWrong) = true)
    (hd_Wrong : PySem.W.hasDictIn K cWrong = true)
    (ic_Wrong : PySem.W.isClsIn K cWrong = true)
    (sc_Wrong : PySem.W.subIn K (.ref cWrong) (.ref cWrong) = some true)
    (ti_Wrong : PySem.W.typeIn K (.ref m_Wrong_init) = some (.type "function"))
    (na_Wrong_line : PySem.W.findIn K (.ref cWrong) "line" = some none)
    (na_Wrong_number : PySem.W.findIn K (.ref cWrong) "number" = some none)
    (l_m_Wrong_init : K.lookup m_Wrong_init = some ⟨oc_m_Wrong_init, od_m_Wrong_init, .func (PySem.W.fnOf "__init__" "Wrong.__init__" (defArgs s_Wrong_init) (defBody s_Wrong_init) (defScope s_Wrong_init) .none kv_m_Wrong_init dc_m_Wrong_init pm_m_Wrong_init an_m_Wrong_init cd_m_Wrong_init ct_m_Wrong_init), sl_m_Wrong_init⟩)
    (c_m_Wrong_init : PySem.W.codeIn K cd_m_Wrong_init "Wrong.__init__" = true)
    (k_m_Wrong_init : PySem.W.keepIn K (.ref m_Wrong_init) = true)
    (g_Builder : PySem.W.nsIn K mainGlobals "Builder" = some (some (.ref cBuilder)))
    (in_Builder : PySem.W.findIn K (.ref cBuilder) "__init__" = some (some (.ref m_Builder_init)))
    (if_Builder : PySem.W.isFn K (.ref m_Builder_init) = true)
    (pg_Builder : PySem.W.plainGet K cBuilder Str.empty = true)
    (hd_Builder : PySem.W.hasDictIn K cBuilder = true)
    (po_Builder : PySem.W.plainOver K cBuilder = true)
    (sa_Builder : PySem.W.findIn K (.ref cBuilder) "__setattr__" = some (some (.builtin "object.__setattr__")))
    (mk_Builder : PySem.W.makesIn K cBuilder = true)
    (kc_Builder : PySem.W.keepIn K (.ref cBuilder) = true)
    (na_Builder_once : PySem.W.findIn K (.ref cBuilder) "once" = some none)
    (na_Builder_uses : PySem.W.findIn K (.ref cBuilder) "uses" = some none)
    (l_m_Builder_init : K.lookup m_Builder_init = some ⟨oc_m_Builder_init, od_m_Builder_init, .func (PySem.W.fnOf "__init__" "Builder.__init__" (defArgs s_Builder_init) (defBody s_Builder_init) (defScope s_Builder_init) .none kv_m_Builder_init dc_m_Builder_init pm_m_Builder_init an_m_Builder_init cd_m_Builder_init ct_m_Builder_init), sl_m_Builder_init⟩)
    (c_m_Builder_init : PySem.W.codeIn K cd_m_Builder_init "Builder.__init__" = true)
    (k_m_Builder_init : PySem.W.keepIn K (.ref m_Builder_init) = true)
    (a_m_Builder_is_there : PySem.W.findIn K (.ref cBuilder) "is_there" = some (some (.ref m_Builder_is_there)))
    (i_m_Builder_is_there : PySem.W.isFn K (.ref m_Builder_is_there) = true)
    (l_m_Builder_is_there : K.lookup m_Builder_is_there = some ⟨oc_m_Builder_is_there, od_m_Builder_is_there, .func (PySem.W.fnOf "is_there" "Builder.is_there" (defArgs s_Builder_is_there) (defBody s_Builder_is_there) (defScope s_Builder_is_there) .none kv_m_Builder_is_there dc_m_Builder_is_there pm_m_Builder_is_there an_m_Builder_is_there cd_m_Builder_is_there ct_m_Builder_is_there), sl_m_Builder_is_there⟩)
    (c_m_Builder_is_there : PySem.W.codeIn K cd_m_Builder_is_there "Builder.is_there" = true)
    (k_m_Builder_is_there : PySem.W.keepIn K (.ref m_Builder_is_there) = true)
    (a_m_Builder_are_too_many : PySem.W.findIn K (.ref cBuilder) "are_too_many" = some (some (.ref m_Builder_are_too_many)))
    (i_m_Builder_are_too_many : PySem.W.isFn K (.ref m_Builder_are_too_many) = true)
    (l_m_Builder_are_too_many : K.lookup m_Builder_are_too_many = some ⟨oc_m_Builder_are_too_many, od_m_Builder_are_too_many, .func (PySem.W.fnOf "are_too_many" "Builder.are_too_many" (defArgs s_Builder_are_too_many) (defBody s_Builder_are_too_many) (defScope s_Builder_are_too_many) .none kv_m_Builder_are_too_many dc_m_Builder_are_too_many pm_m_Builder_are_too_many an_m_Builder_are_too_many cd_m_Builder_are_too_many ct_m_Builder_are_too_many), sl_m_Builder_are_too_many⟩)
    (c_m_Builder_are_too_many : PySem.W.codeIn K cd_m_Builder_are_too_many "Builder.are_too_many" = true)
    (k_m_Builder_are_too_many : PySem.W.keepIn K (.ref m_Builder_are_too_many) = true)
    (a_m_Builder_fault_of : PySem.W.findIn K (.ref cBuilder) "fault_of" = some (some (.ref m_Builder_fault_of)))
    (i_m_Builder_fault_of : PySem.W.isFn K (.ref m_Builder_fault_of) = true)
    (l_m_Builder_fault_of : K.lookup m_Builder_fault_of = some ⟨oc_m_Builder_fault_of, od_m_Builder_fault_of, .func (PySem.W.fnOf "fault_of" "Builder.fault_of" (defArgs s_Builder_fault_of) (defBody s_Builder_fault_of) (defScope s_Builder_fault_of) .none kv_m_Builder_fault_of dc_m_Builder_fault_of pm_m_Builder_fault_of an_m_Builder_fault_of cd_m_Builder_fault_of ct_m_Builder_fault_of), sl_m_Builder_fault_of⟩)
    (c_m_Builder_fault_of : PySem.W.codeIn K cd_m_Builder_fault_of "Builder.fault_of" = true)
    (k_m_Builder_fault_of : PySem.W.keepIn K (.ref m_Builder_fault_of) = true)
    (a_m_Builder_take : PySem.W.findIn K (.ref cBuilder) "take" = some (some (.ref m_Builder_take)))
    (i_m_Builder_take : PySem.W.isFn K (.ref m_Builder_take) = true)
    (l_m_Builder_take : K.lookup m_Builder_take = some ⟨oc_m_Builder_take, od_m_Builder_take, .func (PySem.W.fnOf "take" "Builder.take" (defArgs s_Builder_take) (defBody s_Builder_take) (defScope s_Builder_take) .none kv_m_Builder_take dc_m_Builder_take pm_m_Builder_take an_m_Builder_take cd_m_Builder_take ct_m_Builder_take), sl_m_Builder_take⟩)
    (c_m_Builder_take : PySem.W.codeIn K cd_m_Builder_take "Builder.take" = true)
    (k_m_Builder_take : PySem.W.keepIn K (.ref m_Builder_take) = true)
    (a_m_Builder_made : PySem.W.findIn K (.ref cBuilder) "made" = some (some (.ref m_Builder_made)))
    (i_m_Builder_made : PySem.W.isFn K (.ref m_Builder_made) = true)
    (l_m_Builder_made : K.lookup m_Builder_made = some ⟨oc_m_Builder_made, od_m_Builder_made, .func (PySem.W.fnOf "made" "Builder.made" (defArgs s_Builder_made) (defBody s_Builder_made) (defScope s_Builder_made) .none kv_m_Builder_made dc_m_Builder_made pm_m_Builder_made an_m_Builder_made cd_m_Builder_made ct_m_Builder_made), sl_m_Builder_made⟩)
    (c_m_Builder_made : PySem.W.codeIn K cd_m_Builder_made "Builder.made" = true)
    (k_m_Builder_made : PySem.W.keepIn K (.ref m_Builder_made) = true)
    (g_Refused : PySem.W.nsIn K mainGlobals "Refused" = some (some (.ref cRefused)))
    (in_Refused : PySem.W.findIn K (.ref cRefused) "__init__" = some (some (.ref m_Refused_init)))
    (xl_Refused : K.lookup cRefused = some (excClassObj nm_Refused q_Refused cRefused N_Refused bs_Refused [.type "ValueError", .type "Exception", .type "BaseException", .type "object"] true sn_Refused sub_Refused ab_Refused col_Refused dd_Refused x0_Refused x1_Refused x2_Refused x3_Refused x5_Refused "ValueError.__new__"))
    (sa_Refused : PySem.W.findIn K (.ref cRefused) "__setattr__" = some (some (.builtin "object.__setattr__")))
    (ga_Refused : PySem.W.findIn K (.ref cRefused) "__getattribute__" = some (some (.builtin "BaseException.__getattribute__")))
    (gg_Refused : PySem.W.findIn K (.ref cRefused) "__getattr__" = some none)
    (ex_Refused : PySem.W.subIn K (.ref cRefused) (.type "BaseException") = some true)
    (ty_Refused : PySem.W.typeIn K (.ref cRefused) = some (.type "type"))
    (kc_Refused : PySem.W.keepIn K (.ref cRefused) = true)
    (hd_Refused : PySem.W.hasDictIn K cRefused = true)
    (ic_Refused : PySem.W.isClsIn K cRefused = true)
    (sc_Refused : PySem.W.subIn K (.ref cRefused) (.ref cRefused) = some true)
    (ti_Refused : PySem.W.typeIn K (.ref m_Refused_init) = some (.type "function"))
    (na_Refused_number : PySem.W.findIn K (.ref cRefused) "number" = some none)
    (l_m_Refused_init : K.lookup m_Refused_init = some ⟨oc_m_Refused_init, od_m_Refused_init, .func (PySem.W.fnOf "__init__" "Refused.__init__" (defArgs s_Refused_init) (defBody s_Refused_init) (defScope s_Refused_init) .none kv_m_Refused_init dc_m_Refused_init pm_m_Refused_init an_m_Refused_init cd_m_Refused_init ct_m_Refused_init), sl_m_Refused_init⟩)
    (c_m_Refused_init : PySem.W.codeIn K cd_m_Refused_init "Refused.__init__" = true)
    (k_m_Refused_init : PySem.W.keepIn K (.ref m_Refused_init) = true)
    (g_Desk : PySem.W.nsIn K mainGlobals "Desk" = some (some (.ref cDesk)))
    (in_Desk : PySem.W.findIn K (.ref cDesk) "__init__" = some (some (.ref m_Desk_init)))
    (if_Desk : PySem.W.isFn K (.ref m_Desk_init) = true)
    (pg_Desk : PySem.W.plainGet K cDesk Str.empty = true)
    (hd_Desk : PySem.W.hasDictIn K cDesk = true)
    (po_Desk : PySem.W.plainOver K cDesk = true)
    (sa_Desk : PySem.W.findIn K (.ref cDesk) "__setattr__" = some (some (.builtin "object.__setattr__")))
    (mk_Desk : PySem.W.makesIn K cDesk = true)
    (kc_Desk : PySem.W.keepIn K (.ref cDesk) = true)
    (na_Desk_works : PySem.W.findIn K (.ref cDesk) "works" = some none)
    (na_Desk_moment : PySem.W.findIn K (.ref cDesk) "moment" = some none)
    (na_Desk_totals : PySem.W.findIn K (.ref cDesk) "totals" = some none)
    (l_m_Desk_init : K.lookup m_Desk_init = some ⟨oc_m_Desk_init, od_m_Desk_init, .func (PySem.W.fnOf "__init__" "Desk.__init__" (defArgs s_Desk_init) (defBody s_Desk_init) (defScope s_Desk_init) .none kv_m_Desk_init dc_m_Desk_init pm_m_Desk_init an_m_Desk_init cd_m_Desk_init ct_m_Desk_init), sl_m_Desk_init⟩)
    (c_m_Desk_init : PySem.W.codeIn K cd_m_Desk_init "Desk.__init__" = true)
    (k_m_Desk_init : PySem.W.keepIn K (.ref m_Desk_init) = true)
    (a_m_Desk_read : PySem.W.findIn K (.ref cDesk) "read" = some (some (.ref m_Desk_read)))
    (i_m_Desk_read : PySem.W.isFn K (.ref m_Desk_read) = true)
    (l_m_Desk_read : K.lookup m_Desk_read = some ⟨oc_m_Desk_read, od_m_Desk_read, .func (PySem.W.fnOf "read" "Desk.read" (defArgs s_Desk_read) (defBody s_Desk_read) (defScope s_Desk_read) .none kv_m_Desk_read dc_m_Desk_read pm_m_Desk_read an_m_Desk_read cd_m_Desk_read ct_m_Desk_read), sl_m_Desk_read⟩)
    (c_m_Desk_read : PySem.W.codeIn K cd_m_Desk_read "Desk.read" = true)
    (k_m_Desk_read : PySem.W.keepIn K (.ref m_Desk_read) = true)
    (a_m_Desk_passes : PySem.W.findIn K (.ref cDesk) "passes" = some (some (.ref m_Desk_passes)))
    (i_m_Desk_passes : PySem.W.isFn K (.ref m_Desk_passes) = true)
    (l_m_Desk_passes : K.lookup m_Desk_passes = some ⟨oc_m_Desk_passes, od_m_Desk_passes, .func (PySem.W.fnOf "passes" "Desk.passes" (defArgs s_Desk_passes) (defBody s_Desk_passes) (defScope s_Desk_passes) .none kv_m_Desk_passes dc_m_Desk_passes pm_m_Desk_passes an_m_Desk_passes cd_m_Desk_passes ct_m_Desk_passes), sl_m_Desk_passes⟩)
    (c_m_Desk_passes : PySem.W.codeIn K cd_m_Desk_passes "Desk.passes" = true)
    (k_m_Desk_passes : PySem.W.keepIn K (.ref m_Desk_passes) = true)
    (a_m_Desk_hour : PySem.W.findIn K (.ref cDesk) "hour" = some (some (.ref m_Desk_hour)))
    (i_m_Desk_hour : PySem.W.isFn K (.ref m_Desk_hour) = true)
    (l_m_Desk_hour : K.lookup m_Desk_hour = some ⟨oc_m_Desk_hour, od_m_Desk_hour, .func (PySem.W.fnOf "hour" "Desk.hour" (defArgs s_Desk_hour) (defBody s_Desk_hour) (defScope s_Desk_hour) .none kv_m_Desk_hour dc_m_Desk_hour pm_m_Desk_hour an_m_Desk_hour cd_m_Desk_hour ct_m_Desk_hour), sl_m_Desk_hour⟩)
    (c_m_Desk_hour : PySem.W.codeIn K cd_m_Desk_hour "Desk.hour" = true)
    (k_m_Desk_hour : PySem.W.keepIn K (.ref m_Desk_hour) = true)
    (a_m_Desk_look : PySem.W.findIn K (.ref cDesk) "look" = some (some (.ref m_Desk_look)))
    (i_m_Desk_look : PySem.W.isFn K (.ref m_Desk_look) = true)
    (l_m_Desk_look : K.lookup m_Desk_look = some ⟨oc_m_Desk_look, od_m_Desk_look, .func (PySem.W.fnOf "look" "Desk.look" (defArgs s_Desk_look) (defBody s_Desk_look) (defScope s_Desk_look) .none kv_m_Desk_look dc_m_Desk_look pm_m_Desk_look an_m_Desk_look cd_m_Desk_look ct_m_Desk_look), sl_m_Desk_look⟩)
    (c_m_Desk_look : PySem.W.codeIn K cd_m_Desk_look "Desk.look" = true)
    (k_m_Desk_look : PySem.W.keepIn K (.ref m_Desk_look) = true)
    (a_m_Desk_wanted_in : PySem.W.findIn K (.ref cDesk) "wanted_in" = some (some (.ref m_Desk_wanted_in)))
    (i_m_Desk_wanted_in : PySem.W.isFn K (.ref m_Desk_wanted_in) = true)
    (l_m_Desk_wanted_in : K.lookup m_Desk_wanted_in = some ⟨oc_m_Desk_wanted_in, od_m_Desk_wanted_in, .func (PySem.W.fnOf "wanted_in" "Desk.wanted_in" (defArgs s_Desk_wanted_in) (defBody s_Desk_wanted_in) (defScope s_Desk_wanted_in) .none kv_m_Desk_wanted_in dc_m_Desk_wanted_in pm_m_Desk_wanted_in an_m_Desk_wanted_in cd_m_Desk_wanted_in ct_m_Desk_wanted_in), sl_m_Desk_wanted_in⟩)
    (c_m_Desk_wanted_in : PySem.W.codeIn K cd_m_Desk_wanted_in "Desk.wanted_in" = true)
    (k_m_Desk_wanted_in : PySem.W.keepIn K (.ref m_Desk_wanted_in) = true)
    (a_m_Desk_best : PySem.W.findIn K (.ref cDesk) "best" = some (some (.ref m_Desk_best)))
    (i_m_Desk_best : PySem.W.isFn K (.ref m_Desk_best) = true)
    (l_m_Desk_best : K.lookup m_Desk_best = some ⟨oc_m_Desk_best, od_m_Desk_best, .func (PySem.W.fnOf "best" "Desk.best" (defArgs s_Desk_best) (defBody s_Desk_best) (defScope s_Desk_best) .none kv_m_Desk_best dc_m_Desk_best pm_m_Desk_best an_m_Desk_best cd_m_Desk_best ct_m_Desk_best), sl_m_Desk_best⟩)
    (c_m_Desk_best : PySem.W.codeIn K cd_m_Desk_best "Desk.best" = true)
    (k_m_Desk_best : PySem.W.keepIn K (.ref m_Desk_best) = true)
    (a_m_Desk_plan : PySem.W.findIn K (.ref cDesk) "plan" = some (some (.ref m_Desk_plan)))
    (i_m_Desk_plan : PySem.W.isFn K (.ref m_Desk_plan) = true)
    (l_m_Desk_plan : K.lookup m_Desk_plan = some ⟨oc_m_Desk_plan, od_m_Desk_plan, .func (PySem.W.fnOf "plan" "Desk.plan" (defArgs s_Desk_plan) (defBody s_Desk_plan) (defScope s_Desk_plan) .none kv_m_Desk_plan dc_m_Desk_plan pm_m_Desk_plan an_m_Desk_plan cd_m_Desk_plan ct_m_Desk_plan), sl_m_Desk_plan⟩)
    (c_m_Desk_plan : PySem.W.codeIn K cd_m_Desk_plan "Desk.plan" = true)
    (k_m_Desk_plan : PySem.W.keepIn K (.ref m_Desk_plan) = true)
    (a_m_Desk_follow : PySem.W.findIn K (.ref cDesk) "follow" = some (some (.ref m_Desk_follow)))
    (i_m_Desk_follow : PySem.W.isFn K (.ref m_Desk_follow) = true)
    (l_m_Desk_follow : K.lookup m_Desk_follow = some ⟨oc_m_Desk_follow, od_m_Desk_follow, .func (PySem.W.fnOf "follow" "Desk.follow" (defArgs s_Desk_follow) (defBody s_Desk_follow) (defScope s_Desk_follow) .none kv_m_Desk_follow dc_m_Desk_follow pm_m_Desk_follow an_m_Desk_follow cd_m_Desk_follow ct_m_Desk_follow), sl_m_Desk_follow⟩)
    (c_m_Desk_follow : PySem.W.codeIn K cd_m_Desk_follow "Desk.follow" = true)
    (k_m_Desk_follow : PySem.W.keepIn K (.ref m_Desk_follow) = true)
    (a_m_Desk_lasts : PySem.W.findIn K (.ref cDesk) "lasts" = some (some (.ref m_Desk_lasts)))
    (i_m_Desk_lasts : PySem.W.isFn K (.ref m_Desk_lasts) = true)
    (l_m_Desk_lasts : K.lookup m_Desk_lasts = some ⟨oc_m_Desk_lasts, od_m_Desk_lasts, .func (PySem.W.fnOf "lasts" "Desk.lasts" (defArgs s_Desk_lasts) (defBody s_Desk_lasts) (defScope s_Desk_lasts) .none kv_m_Desk_lasts dc_m_Desk_lasts pm_m_Desk_lasts an_m_Desk_lasts cd_m_Desk_lasts ct_m_Desk_lasts), sl_m_Desk_lasts⟩)
    (c_m_Desk_lasts : PySem.W.codeIn K cd_m_Desk_lasts "Desk.lasts" = true)
    (k_m_Desk_lasts : PySem.W.keepIn K (.ref m_Desk_lasts) = true)
    (a_m_Desk_told_by_number : PySem.W.findIn K (.ref cDesk) "told_by_number" = some (some (.ref m_Desk_told_by_number)))
    (i_m_Desk_told_by_number : PySem.W.isFn K (.ref m_Desk_told_by_number) = true)
    (l_m_Desk_told_by_number : K.lookup m_Desk_told_by_number = some ⟨oc_m_Desk_told_by_number, od_m_Desk_told_by_number, .func (PySem.W.fnOf "told_by_number" "Desk.told_by_number" (defArgs s_Desk_told_by_number) (defBody s_Desk_told_by_number) (defScope s_Desk_told_by_number) .none kv_m_Desk_told_by_number dc_m_Desk_told_by_number pm_m_Desk_told_by_number an_m_Desk_told_by_number cd_m_Desk_told_by_number ct_m_Desk_told_by_number), sl_m_Desk_told_by_number⟩)
    (c_m_Desk_told_by_number : PySem.W.codeIn K cd_m_Desk_told_by_number "Desk.told_by_number" = true)
    (k_m_Desk_told_by_number : PySem.W.keepIn K (.ref m_Desk_told_by_number) = true)
    (a_m_Desk_told : PySem.W.findIn K (.ref cDesk) "told" = some (some (.ref m_Desk_told)))
    (i_m_Desk_told : PySem.W.isFn K (.ref m_Desk_told) = true)
    (l_m_Desk_told : K.lookup m_Desk_told = some ⟨oc_m_Desk_told, od_m_Desk_told, .func (PySem.W.fnOf "told" "Desk.told" (defArgs s_Desk_told) (defBody s_Desk_told) (defScope s_Desk_told) .none kv_m_Desk_told dc_m_Desk_told pm_m_Desk_told an_m_Desk_told cd_m_Desk_told ct_m_Desk_told), sl_m_Desk_told⟩)
    (c_m_Desk_told : PySem.W.codeIn K cd_m_Desk_told "Desk.told" = true)
    (k_m_Desk_told : PySem.W.keepIn K (.ref m_Desk_told) = true)
    (a_m_Desk_answer : PySem.W.findIn K (.ref cDesk) "answer" = some (some (.ref m_Desk_answer)))
    (i_m_Desk_answer : PySem.W.isFn K (.ref m_Desk_answer) = true)
    (l_m_Desk_answer : K.lookup m_Desk_answer = some ⟨oc_m_Desk_answer, od_m_Desk_answer, .func (PySem.W.fnOf "answer" "Desk.answer" (defArgs s_Desk_answer) (defBody s_Desk_answer) (defScope s_Desk_answer) .none kv_m_Desk_answer dc_m_Desk_answer pm_m_Desk_answer an_m_Desk_answer cd_m_Desk_answer ct_m_Desk_answer), sl_m_Desk_answer⟩)
    (c_m_Desk_answer : PySem.W.codeIn K cd_m_Desk_answer "Desk.answer" = true)
    (k_m_Desk_answer : PySem.W.keepIn K (.ref m_Desk_answer) = true)
    (g_beginning : PySem.W.nsIn K mainGlobals "beginning" = some (some (.ref f_beginning)))
    (l_f_beginning : K.lookup f_beginning = some ⟨oc_f_beginning, od_f_beginning, .func (PySem.W.fnOf "beginning" "beginning" (defArgs s_beginning) (defBody s_beginning) (defScope s_beginning) .none kv_f_beginning dc_f_beginning pm_f_beginning an_f_beginning cd_f_beginning ct_f_beginning), sl_f_beginning⟩)
    (c_f_beginning : PySem.W.codeIn K cd_f_beginning "beginning" = true)
    (k_f_beginning : PySem.W.keepIn K (.ref f_beginning) = true)
    (g_charged : PySem.W.nsIn K mainGlobals "charged" = some (some (.ref f_charged)))
    (l_f_charged : K.lookup f_charged = some ⟨oc_f_charged, od_f_charged, .func (PySem.W.fnOf "charged" "charged" (defArgs s_charged) (defBody s_charged) (defScope s_charged) .none kv_f_charged dc_f_charged pm_f_charged an_f_charged cd_f_charged ct_f_charged), sl_f_charged⟩)
    (c_f_charged : PySem.W.codeIn K cd_f_charged "charged" = true)
    (k_f_charged : PySem.W.keepIn K (.ref f_charged) = true)
    (g_hour_passed : PySem.W.nsIn K mainGlobals "hour_passed" = some (some (.ref f_hour_passed)))
    (l_f_hour_passed : K.lookup f_hour_passed = some ⟨oc_f_hour_passed, od_f_hour_passed, .func (PySem.W.fnOf "hour_passed" "hour_passed" (defArgs s_hour_passed) (defBody s_hour_passed) (defScope s_hour_passed) .none kv_f_hour_passed dc_f_hour_passed pm_f_hour_passed an_f_hour_passed cd_f_hour_passed ct_f_hour_passed), sl_f_hour_passed⟩)
    (c_f_hour_passed : PySem.W.codeIn K cd_f_hour_passed "hour_passed" = true)
    (k_f_hour_passed : PySem.W.keepIn K (.ref f_hour_passed) = true)
    (g_state_of : PySem.W.nsIn K mainGlobals "state_of" = some (some (.ref f_state_of)))
    (l_f_state_of : K.lookup f_state_of = some ⟨oc_f_state_of, od_f_state_of, .func (PySem.W.fnOf "state_of" "state_of" (defArgs s_state_of) (defBody s_state_of) (defScope s_state_of) .none kv_f_state_of dc_f_state_of pm_f_state_of an_f_state_of cd_f_state_of ct_f_state_of), sl_f_state_of⟩)
    (c_f_state_of : PySem.W.codeIn K cd_f_state_of "state_of" = true)
    (k_f_state_of : PySem.W.keepIn K (.ref f_state_of) = true)
    (g_continued : PySem.W.nsIn K mainGlobals "continued" = some (some (.ref f_continued)))
    (l_f_continued : K.lookup f_continued = some ⟨oc_f_continued, od_f_continued, .func (PySem.W.fnOf "continued" "continued" (defArgs s_continued) (defBody s_continued) (defScope s_continued) .none kv_f_continued dc_f_continued pm_f_continued an_f_continued cd_f_continued ct_f_continued), sl_f_continued⟩)
    (c_f_continued : PySem.W.codeIn K cd_f_continued "continued" = true)
    (k_f_continued : PySem.W.keepIn K (.ref f_continued) = true)
    (g_best_plan : PySem.W.nsIn K mainGlobals "best_plan" = some (some (.ref f_best_plan)))
    (l_f_best_plan : K.lookup f_best_plan = some ⟨oc_f_best_plan, od_f_best_plan, .func (PySem.W.fnOf "best_plan" "best_plan" (defArgs s_best_plan) (defBody s_best_plan) (defScope s_best_plan) .none kv_f_best_plan dc_f_best_plan pm_f_best_plan an_f_best_plan cd_f_best_plan ct_f_best_plan), sl_f_best_plan⟩)
    (c_f_best_plan : PySem.W.codeIn K cd_f_best_plan "best_plan" = true)
    (k_f_best_plan : PySem.W.keepIn K (.ref f_best_plan) = true)
    (g_parted : PySem.W.nsIn K mainGlobals "parted" = some (some (.ref f_parted)))
    (l_f_parted : K.lookup f_parted = some ⟨oc_f_parted, od_f_parted, .func (PySem.W.fnOf "parted" "parted" (defArgs s_parted) (defBody s_parted) (defScope s_parted) .none kv_f_parted dc_f_parted pm_f_parted an_f_parted cd_f_parted ct_f_parted), sl_f_parted⟩)
    (c_f_parted : PySem.W.codeIn K cd_f_parted "parted" = true)
    (k_f_parted : PySem.W.keepIn K (.ref f_parted) = true)
    (g_is_name : PySem.W.nsIn K mainGlobals "is_name" = some (some (.ref f_is_name)))
    (l_f_is_name : K.lookup f_is_name = some ⟨oc_f_is_name, od_f_is_name, .func (PySem.W.fnOf "is_name" "is_name" (defArgs s_is_name) (defBody s_is_name) (defScope s_is_name) .none kv_f_is_name dc_f_is_name pm_f_is_name an_f_is_name cd_f_is_name ct_f_is_name), sl_f_is_name⟩)
    (c_f_is_name : PySem.W.codeIn K cd_f_is_name "is_name" = true)
    (k_f_is_name : PySem.W.keepIn K (.ref f_is_name) = true)
    (g_is_number : PySem.W.nsIn K mainGlobals "is_number" = some (some (.ref f_is_number)))
    (l_f_is_number : K.lookup f_is_number = some ⟨oc_f_is_number, od_f_is_number, .func (PySem.W.fnOf "is_number" "is_number" (defArgs s_is_number) (defBody s_is_number) (defScope s_is_number) .none kv_f_is_number dc_f_is_number pm_f_is_number an_f_is_number cd_f_is_number ct_f_is_number), sl_f_is_number⟩)
    (c_f_is_number : PySem.W.codeIn K cd_f_is_number "is_number" = true)
    (k_f_is_number : PySem.W.keepIn K (.ref f_is_number) = true)
    (g_number_of : PySem.W.nsIn K mainGlobals "number_of" = some (some (.ref f_number_of)))
    (l_f_number_of : K.lookup f_number_of = some ⟨oc_f_number_of, od_f_number_of, .func (PySem.W.fnOf "number_of" "number_of" (defArgs s_number_of) (defBody s_number_of) (defScope s_number_of) .none kv_f_number_of dc_f_number_of pm_f_number_of an_f_number_of cd_f_number_of ct_f_number_of), sl_f_number_of⟩)
    (c_f_number_of : PySem.W.codeIn K cd_f_number_of "number_of" = true)
    (k_f_number_of : PySem.W.keepIn K (.ref f_number_of) = true)
    (g_is_within : PySem.W.nsIn K mainGlobals "is_within" = some (some (.ref f_is_within)))
    (l_f_is_within : K.lookup f_is_within = some ⟨oc_f_is_within, od_f_is_within, .func (PySem.W.fnOf "is_within" "is_within" (defArgs s_is_within) (defBody s_is_within) (defScope s_is_within) .none kv_f_is_within dc_f_is_within pm_f_is_within an_f_is_within cd_f_is_within ct_f_is_within), sl_f_is_within⟩)
    (c_f_is_within : PySem.W.codeIn K cd_f_is_within "is_within" = true)
    (k_f_is_within : PySem.W.keepIn K (.ref f_is_within) = true)
    (g_is_of : PySem.W.nsIn K mainGlobals "is_of" = some (some (.ref f_is_of)))
    (l_f_is_of : K.lookup f_is_of = some ⟨oc_f_is_of, od_f_is_of, .func (PySem.W.fnOf "is_of" "is_of" (defArgs s_is_of) (defBody s_is_of) (defScope s_is_of) .none kv_f_is_of dc_f_is_of pm_f_is_of an_f_is_of cd_f_is_of ct_f_is_of), sl_f_is_of⟩)
    (c_f_is_of : PySem.W.codeIn K cd_f_is_of "is_of" = true)
    (k_f_is_of : PySem.W.keepIn K (.ref f_is_of) = true)
    (g_told_word : PySem.W.nsIn K mainGlobals "told_word" = some (some (.ref f_told_word)))
    (l_f_told_word : K.lookup f_told_word = some ⟨oc_f_told_word, od_f_told_word, .func (PySem.W.fnOf "told_word" "told_word" (defArgs s_told_word) (defBody s_told_word) (defScope s_told_word) .none kv_f_told_word dc_f_told_word pm_f_told_word an_f_told_word cd_f_told_word ct_f_told_word), sl_f_told_word⟩)
    (c_f_told_word : PySem.W.codeIn K cd_f_told_word "told_word" = true)
    (k_f_told_word : PySem.W.keepIn K (.ref f_told_word) = true)
    (g_has_form : PySem.W.nsIn K mainGlobals "has_form" = some (some (.ref f_has_form)))
    (l_f_has_form : K.lookup f_has_form = some ⟨oc_f_has_form, od_f_has_form, .func (PySem.W.fnOf "has_form" "has_form" (defArgs s_has_form) (defBody s_has_form) (defScope s_has_form) .none kv_f_has_form dc_f_has_form pm_f_has_form an_f_has_form cd_f_has_form ct_f_has_form), sl_f_has_form⟩)
    (c_f_has_form : PySem.W.codeIn K cd_f_has_form "has_form" = true)
    (k_f_has_form : PySem.W.keepIn K (.ref f_has_form) = true)
    (g_are_within : PySem.W.nsIn K mainGlobals "are_within" = some (some (.ref f_are_within)))
    (l_f_are_within : K.lookup f_are_within = some ⟨oc_f_are_within, od_f_are_within, .func (PySem.W.fnOf "are_within" "are_within" (defArgs s_are_within) (defBody s_are_within) (defScope s_are_within) .none kv_f_are_within dc_f_are_within pm_f_are_within an_f_are_within cd_f_are_within ct_f_are_within), sl_f_are_within⟩)
    (c_f_are_within : PySem.W.codeIn K cd_f_are_within "are_within" = true)
    (k_f_are_within : PySem.W.keepIn K (.ref f_are_within) = true)
    (g_read_works : PySem.W.nsIn K mainGlobals "read_works" = some (some (.ref f_read_works)))
    (l_f_read_works : K.lookup f_read_works = some ⟨oc_f_read_works, od_f_read_works, .func (PySem.W.fnOf "read_works" "read_works" (defArgs s_read_works) (defBody s_read_works) (defScope s_read_works) .none kv_f_read_works dc_f_read_works pm_f_read_works an_f_read_works cd_f_read_works ct_f_read_works), sl_f_read_works⟩)
    (c_f_read_works : PySem.W.codeIn K cd_f_read_works "read_works" = true)
    (k_f_read_works : PySem.W.keepIn K (.ref f_read_works) = true)
    (g_want : PySem.W.nsIn K mainGlobals "want" = some (some (.ref f_want)))
    (l_f_want : K.lookup f_want = some ⟨oc_f_want, od_f_want, .func (PySem.W.fnOf "want" "want" (defArgs s_want) (defBody s_want) (defScope s_want) .none kv_f_want dc_f_want pm_f_want an_f_want cd_f_want ct_f_want), sl_f_want⟩)
    (c_f_want : PySem.W.codeIn K cd_f_want "want" = true)
    (k_f_want : PySem.W.keepIn K (.ref f_want) = true)
    (g_answers : PySem.W.nsIn K mainGlobals "answers" = some (some (.ref f_answers)))
    (l_f_answers : K.lookup f_answers = some ⟨oc_f_answers, od_f_answers, .func (PySem.W.fnOf "answers" "answers" (defArgs s_answers) (defBody s_answers) (defScope s_answers) .none kv_f_answers dc_f_answers pm_f_answers an_f_answers cd_f_answers ct_f_answers), sl_f_answers⟩)
    (c_f_answers : PySem.W.codeIn K cd_f_answers "answers" = true)
    (k_f_answers : PySem.W.keepIn K (.ref f_answers) = true)
    (n_HOURS_OF_DAY : PySem.W.nsIn K mainGlobals "HOURS_OF_DAY" = some (some (.int (24) t_HOURS_OF_DAY)))
    (n_LINE_END : PySem.W.nsIn K mainGlobals "LINE_END" = some (some (.int (10) t_LINE_END)))
    (n_BLANK : PySem.W.nsIn K mainGlobals "BLANK" = some (some (.int (32) t_BLANK)))
    (n_MARK : PySem.W.nsIn K mainGlobals "MARK" = some (some (.int (35) t_MARK)))
    (n_NOUGHT : PySem.W.nsIn K mainGlobals "NOUGHT" = some (some (.int (48) t_NOUGHT)))
    (n_MOST_NAME : PySem.W.nsIn K mainGlobals "MOST_NAME" = some (some (.int (12) t_MOST_NAME)))
    (n_MOST_FIGURES : PySem.W.nsIn K mainGlobals "MOST_FIGURES" = some (some (.int (4) t_MOST_FIGURES)))
    (n_NO_WORD : PySem.W.nsIn K mainGlobals "NO_WORD" = some (some (.int (1) t_NO_WORD)))
    (n_NOT_SO : PySem.W.nsIn K mainGlobals "NOT_SO" = some (some (.int (2) t_NOT_SO)))
    (n_THERE : PySem.W.nsIn K mainGlobals "THERE" = some (some (.int (4) t_THERE)))
    (n_OUTSIDE : PySem.W.nsIn K mainGlobals "OUTSIDE" = some (some (.int (5) t_OUTSIDE)))
    (n_TOO_MANY : PySem.W.nsIn K mainGlobals "TOO_MANY" = some (some (.int (6) t_TOO_MANY)))
    (n_LACKING : PySem.W.nsIn K mainGlobals "LACKING" = some (some (.int (7) t_LACKING)))
    (n_MOST_HELD : PySem.W.nsIn K mainGlobals "MOST_HELD" = some (some (.int (30) t_MOST_HELD)))
    (n_MOST_RETORTS : PySem.W.nsIn K mainGlobals "MOST_RETORTS" = some (some (.int (3) t_MOST_RETORTS)))
    (n_MOST_LEAK : PySem.W.nsIn K mainGlobals "MOST_LEAK" = some (some (.int (5) t_MOST_LEAK)))
    (n_MOST_HOURS : PySem.W.nsIn K mainGlobals "MOST_HOURS" = some (some (.int (3) t_MOST_HOURS)))
    (n_MOST_GIVEN : PySem.W.nsIn K mainGlobals "MOST_GIVEN" = some (some (.int (20) t_MOST_GIVEN)))
    (n_MOST_USES : PySem.W.nsIn K mainGlobals "MOST_USES" = some (some (.int (8) t_MOST_USES)))
    (n_MOST_BURNT : PySem.W.nsIn K mainGlobals "MOST_BURNT" = some (some (.int (20) t_MOST_BURNT)))
    (n_LAST_HOUR_reading : PySem.W.nsIn K mainGlobals "LAST_HOUR_reading" = some (some (.int (23) t_LAST_HOUR_reading)))
    (n_BAD : PySem.W.nsIn K mainGlobals "BAD" = some (some (.int (-1) t_BAD)))
    (n_NO_TEXT : PySem.W.nsIn K mainGlobals "NO_TEXT" = some (some (.int (-2) t_NO_TEXT)))
    (n_NO_PLAN : PySem.W.nsIn K mainGlobals "NO_PLAN" = some (some (.int (-6) t_NO_PLAN)))
    (n_NO_WORKS : PySem.W.nsIn K mainGlobals "NO_WORKS" = some (some (.int (-9) t_NO_WORKS)))
    (n_LAST_HOUR_works : PySem.W.nsIn K mainGlobals "LAST_HOUR_works" = some (some (.int (23) t_LAST_HOUR_works)))
    (n_MOST_PLANNED : PySem.W.nsIn K mainGlobals "MOST_PLANNED" = some (some (.int (16) t_MOST_PLANNED)))
    (n_MOST_LASTING : PySem.W.nsIn K mainGlobals "MOST_LASTING" = some (some (.int (200) t_MOST_LASTING)))
    (n_READ : PySem.W.nsIn K mainGlobals "READ" = some (some (.int (0) t_READ)))
    (n_HOLDER : PySem.W.nsIn K mainGlobals "HOLDER" = some (some (.str "holder" t_HOLDER)))
    (n_RETORTS : PySem.W.nsIn K mainGlobals "RETORTS" = some (some (.str "retorts" t_RETORTS)))
    (n_LEAK : PySem.W.nsIn K mainGlobals "LEAK" = some (some (.str "leak" t_LEAK)))
    (n_CHARGE : PySem.W.nsIn K mainGlobals "CHARGE" = some (some (.str "charge" t_CHARGE)))
    (n_USE : PySem.W.nsIn K mainGlobals "USE" = some (some (.str "use" t_USE)))
    (z_sum : PySem.W.nsIn K mainGlobals "sum" = some none)
    (z_len : PySem.W.nsIn K mainGlobals "len" = some none)
    (z_min : PySem.W.nsIn K mainGlobals "min" = some none)
    (z_max : PySem.W.nsIn K mainGlobals "max" = some none)
    (z_tuple : PySem.W.nsIn K mainGlobals "tuple" = some none)
    (z_sorted : PySem.W.nsIn K mainGlobals "sorted" = some none)
    (z_range : PySem.W.nsIn K mainGlobals "range" = some none)
    (z_enumerate : PySem.W.nsIn K mainGlobals "enumerate" = some none)
    (z_all : PySem.W.nsIn K mainGlobals "all" = some none)
    (z_ord : PySem.W.nsIn K mainGlobals "ord" = some none)
    (z_int : PySem.W.nsIn K mainGlobals "int" = some none)
    (z_zip : PySem.W.nsIn K mainGlobals "zip" = some none)
    (z_list : PySem.W.nsIn K mainGlobals "list" = some none)
    (z_ValueError : PySem.W.nsIn K mainGlobals "ValueError" = some none)
    (g_WORDS : PySem.W.nsIn K mainGlobals "WORDS" = some (some (.ref wWORDS)))
    (l_WORDS : K.lookup wWORDS = some { cls := .type "tuple", data := .seq #[.str "holder" tw0, .str "retorts" tw1, .str "leak" tw2, .str "charge" tw3, .str "use" tw4] })
    (g_WITH : PySem.W.nsIn K mainGlobals "WITH_NUMBER" = some (some (.ref wWITH)))
    (l_WITH : K.lookup wWITH = some { cls := .type "tuple", data := .seq #[.int 1 tn0, .int 4 tn1, .int 5 tn2, .int 6 tn3] })
    (ve : PySem.W.findCls K (.type "ValueError") (.type "type") "__init__" = some (.val (.builtin "ValueError.__init__")))
    : Txt K mg ⟨cUse, cWorks, cMoment, cTold, cWrong, cBuilder, cRefused, cDesk, m_Use_init, m_Use_does_burn, m_Works_init, m_Works_wanted, m_Works_given_by, m_Moment_init, m_Moment_empty, m_Told_init, m_Wrong_init, m_Builder_init, m_Builder_is_there, m_Builder_are_too_many, m_Builder_fault_of, m_Builder_take, m_Builder_made, m_Refused_init, m_Desk_init, m_Desk_read, m_Desk_passes, m_Desk_hour, m_Desk_look, m_Desk_wanted_in, m_Desk_best, m_Desk_plan, m_Desk_follow, m_Desk_lasts, m_Desk_told_by_number, m_Desk_told, m_Desk_answer, f_beginning, f_charged, f_hour_passed, f_state_of, f_continued, f_best_plan, f_parted, f_is_name, f_is_number, f_number_of, f_is_within, f_is_of, f_told_word, f_has_form, f_are_within, f_read_works, f_want, f_answers, wWORDS, wWITH⟩ where
  g_Use := PySem.W.mg_of X G g_Use
  cl_Use := ⟨pg_Use, hd_Use, po_Use, sa_Use⟩
  mk_Use := ⟨mk_Use, in_Use, if_Use, kc_Use⟩
  na_Use_name := na_Use_name
  na_Use_many := na_Use_many
  na_Use_begin := na_Use_begin
  na_Use_end := na_Use_end
  fn_m_Use_init := fnAt_mk l_m_Use_init c_m_Use_init k_m_Use_init fun _ _ _ _ _ _ us hl => match us, hl with | [_, _, _, _, _], _ => rfl
  me_Use_does_burn := ⟨a_m_Use_does_burn, i_m_Use_does_burn, k_m_Use_does_burn⟩
  fn_m_Use_does_burn := fnAt_mk l_m_Use_does_burn c_m_Use_does_burn k_m_Use_does_burn fun _ _ _ _ _ _ us hl => match us, hl with | [_, _], _ => rfl
  g_Works := PySem.W.mg_of X G g_Works
  cl_Works := ⟨pg_Works, hd_Works, po_Works, sa_Works⟩
  mk_Works := ⟨mk_Works, in_Works, if_Works, kc_Works⟩
  na_Works_holds := na_Works_holds
  na_Works_first := na_Works_first
  na_Works_retorts := na_Works_retorts
  na_Works_leak := na_Works_leak
  na_Works_charge := na_Works_charge
  na_Works_uses := na_Works_uses
  fn_m_Works_init := fnAt_mk l_m_Works_init c_m_Works_init k_m_Works_init fun _ _ _ _ _ _ us hl => match us, hl with | [_, _, _, _, _, _, _], _ => rfl
  me_Works_wanted := ⟨a_m_Works_wanted, i_m_Works_wanted, k_m_Works_wanted⟩
  fn_m_Works_wanted := fnAt_mk l_m_Works_wanted c_m_Works_wanted k_m_Works_wanted fun _ _ _ _ _ _ us hl => match us, hl with | [_, _], _ => rfl
  me_Works_given_by := ⟨a_m_Works_given_by, i_m_Works_given_by, k_m_Works_given_by⟩
  fn_m_Works_given_by := fnAt_mk l_m_Works_given_by c_m_Works_given_by k_m_Works_given_by fun _ _ _ _ _ _ us hl => match us, hl with | [_, _], _ => rfl
  g_Moment := PySem.W.mg_of X G g_Moment
  cl_Moment := ⟨pg_Moment, hd_Moment, po_Moment, sa_Moment⟩
  mk_Moment := ⟨mk_Moment, in_Moment, if_Moment, kc_Moment⟩
  na_Moment_hours := na_Moment_hours
  na_Moment_held := na_Moment_held
  na_Moment_left := na_Moment_left
  fn_m_Moment_init := fnAt_mk l_m_Moment_init c_m_Moment_init k_m_Moment_init fun _ _ _ _ _ _ us hl => match us, hl with | [_, _, _, _], _ => rfl
  me_Moment_empty := ⟨a_m_Moment_empty, i_m_Moment_empty, k_m_Moment_empty⟩
  fn_m_Moment_empty := fnAt_mk l_m_Moment_empty c_m_Moment_empty k_m_Moment_empty fun _ _ _ _ _ _ us hl => match us, hl with | [_], _ => rfl
  g_Told := PySem.W.mg_of X G g_Told
  cl_Told := ⟨pg_Told, hd_Told, po_Told, sa_Told⟩
  mk_Told := ⟨mk_Told, in_Told, if_Told, kc_Told⟩
  na_Told_moment := na_Told_moment
  na_Told_given := na_Told_given
  na_Told_burnt := na_Told_burnt
  na_Told_leaked := na_Told_leaked
  na_Told_blown := na_Told_blown
  na_Told_short := na_Told_short
  fn_m_Told_init := fnAt_mk l_m_Told_init c_m_Told_init k_m_Told_init fun _ _ _ _ _ _ us hl => match us, hl with | [_, _, _, _, _, _, _], _ => rfl
  g_Wrong := PySem.W.mg_of X G g_Wrong
  x_Wrong := ⟨⟨_, _, _, _, _, _, _, _, _, _, _, _, _, _, _, xl_Wrong, by decide +kernel⟩, sa_Wrong, ex_Wrong, ty_Wrong, kc_Wrong⟩
  xf_Wrong := ⟨ga_Wrong, gg_Wrong, ex_Wrong, hd_Wrong⟩
  in_Wrong := in_Wrong
  ti_Wrong := ti_Wrong
  te_Wrong := exm_self ex_Wrong ic_Wrong ty_Wrong sc_Wrong
  na_Wrong_line := na_Wrong_line
  na_Wrong_number := na_Wrong_number
  fn_m_Wrong_init := fnAt_mk l_m_Wrong_init c_m_Wrong_init k_m_Wrong_init fun _ _ _ _ _ _ us hl => match us, hl with | [_, _, _], _ => rfl
  g_Builder := PySem.W.mg_of X G g_Builder
  cl_Builder := ⟨pg_Builder, hd_Builder, po_Builder, sa_Builder⟩
  mk_Builder := ⟨mk_Builder, in_Builder, if_Builder, kc_Builder⟩
  na_Builder_once := na_Builder_once
  na_Builder_uses := na_Builder_uses
  fn_m_Builder_init := fnAt_mk l_m_Builder_init c_m_Builder_init k_m_Builder_init fun _ _ _ _ _ _ us hl => match us, hl with | [_], _ => rfl
  me_Builder_is_there := ⟨a_m_Builder_is_there, i_m_Builder_is_there, k_m_Builder_is_there⟩
  fn_m_Builder_is_there := fnAt_mk l_m_Builder_is_there c_m_Builder_is_there k_m_Builder_is_there fun _ _ _ _ _ _ us hl => match us, hl with | [_, _, _], _ => rfl
  me_Builder_are_too_many := ⟨a_m_Builder_are_too_many, i_m_Builder_are_too_many, k_m_Builder_are_too_many⟩
  fn_m_Builder_are_too_many := fnAt_mk l_m_Builder_are_too_many c_m_Builder_are_too_many k_m_Builder_are_too_many fun _ _ _ _ _ _ us hl => match us, hl with | [_, _, _], _ => rfl
  me_Builder_fault_of := ⟨a_m_Builder_fault_of, i_m_Builder_fault_of, k_m_Builder_fault_of⟩
  fn_m_Builder_fault_of := fnAt_mk l_m_Builder_fault_of c_m_Builder_fault_of k_m_Builder_fault_of fun _ _ _ _ _ _ us hl => match us, hl with | [_, _], _ => rfl
  me_Builder_take := ⟨a_m_Builder_take, i_m_Builder_take, k_m_Builder_take⟩
  fn_m_Builder_take := fnAt_mk l_m_Builder_take c_m_Builder_take k_m_Builder_take fun _ _ _ _ _ _ us hl => match us, hl with | [_, _], _ => rfl
  me_Builder_made := ⟨a_m_Builder_made, i_m_Builder_made, k_m_Builder_made⟩
  fn_m_Builder_made := fnAt_mk l_m_Builder_made c_m_Builder_made k_m_Builder_made fun _ _ _ _ _ _ us hl => match us, hl with | [_], _ => rfl
  g_Refused := PySem.W.mg_of X G g_Refused
  x_Refused := ⟨⟨_, _, _, _, _, _, _, _, _, _, _, _, _, _, _, xl_Refused, by decide +kernel⟩, sa_Refused, ex_Refused, ty_Refused, kc_Refused⟩
  xf_Refused := ⟨ga_Refused, gg_Refused, ex_Refused, hd_Refused⟩
  in_Refused := in_Refused
  ti_Refused := ti_Refused
  te_Refused := exm_self ex_Refused ic_Refused ty_Refused sc_Refused
  na_Refused_number := na_Refused_number
  fn_m_Refused_init := fnAt_mk l_m_Refused_init c_m_Refused_init k_m_Refused_init fun _ _ _ _ _ _ us hl => match us, hl with | [_, _], _ => rfl
  g_Desk := PySem.W.mg_of X G g_Desk
  cl_Desk := ⟨pg_Desk, hd_Desk, po_Desk, sa_Desk⟩
  mk_Desk := ⟨mk_Desk, in_Desk, if_Desk, kc_Desk⟩
  na_Desk_works := na_Desk_works
  na_Desk_moment := na_Desk_moment
  na_Desk_totals := na_Desk_totals
  fn_m_Desk_init := fnAt_mk l_m_Desk_init c_m_Desk_init k_m_Desk_init fun _ _ _ _ _ _ us hl => match us, hl with | [_], _ => rfl
  me_Desk_read := ⟨a_m_Desk_read, i_m_Desk_read, k_m_Desk_read⟩
  fn_m_Desk_read := fnAt_mk l_m_Desk_read c_m_Desk_read k_m_Desk_read fun _ _ _ _ _ _ us hl => match us, hl with | [_, _], _ => rfl
  me_Desk_passes := ⟨a_m_Desk_passes, i_m_Desk_passes, k_m_Desk_passes⟩
  fn_m_Desk_passes := fnAt_mk l_m_Desk_passes c_m_Desk_passes k_m_Desk_passes fun _ _ _ _ _ _ us hl => match us, hl with | [_, _], _ => rfl
  me_Desk_hour := ⟨a_m_Desk_hour, i_m_Desk_hour, k_m_Desk_hour⟩
  fn_m_Desk_hour := fnAt_mk l_m_Desk_hour c_m_Desk_hour k_m_Desk_hour fun _ _ _ _ _ _ us hl => match us, hl with | [_, _], _ => rfl
  me_Desk_look := ⟨a_m_Desk_look, i_m_Desk_look, k_m_Desk_look⟩
  fn_m_Desk_look := fnAt_mk l_m_Desk_look c_m_Desk_look k_m_Desk_look fun _ _ _ _ _ _ us hl => match us, hl with | [_], _ => rfl
  me_Desk_wanted_in := ⟨a_m_Desk_wanted_in, i_m_Desk_wanted_in, k_m_Desk_wanted_in⟩
  fn_m_Desk_wanted_in := fnAt_mk l_m_Desk_wanted_in c_m_Desk_wanted_in k_m_Desk_wanted_in fun _ _ _ _ _ _ us hl => match us, hl with | [_, _], _ => rfl
  me_Desk_best := ⟨a_m_Desk_best, i_m_Desk_best, k_m_Desk_best⟩
  fn_m_Desk_best := fnAt_mk l_m_Desk_best c_m_Desk_best k_m_Desk_best fun _ _ _ _ _ _ us hl => match us, hl with | [_, _], _ => rfl
  me_Desk_plan := ⟨a_m_Desk_plan, i_m_Desk_plan, k_m_Desk_plan⟩
  fn_m_Desk_plan := fnAt_mk l_m_Desk_plan c_m_Desk_plan k_m_Desk_plan fun _ _ _ _ _ _ us hl => match us, hl with | [_, _], _ => rfl
  me_Desk_follow := ⟨a_m_Desk_follow, i_m_Desk_follow, k_m_Desk_follow⟩
  fn_m_Desk_follow := fnAt_mk l_m_Desk_follow c_m_Desk_follow k_m_Desk_follow fun _ _ _ _ _ _ us hl => match us, hl with | [_, _], _ => rfl
  me_Desk_lasts := ⟨a_m_Desk_lasts, i_m_Desk_lasts, k_m_Desk_lasts⟩
  fn_m_Desk_lasts := fnAt_mk l_m_Desk_lasts c_m_Desk_lasts k_m_Desk_lasts fun _ _ _ _ _ _ us hl => match us, hl with | [_], _ => rfl
  me_Desk_told_by_number := ⟨a_m_Desk_told_by_number, i_m_Desk_told_by_number, k_m_Desk_told_by_number⟩
  fn_m_Desk_told_by_number := fnAt_mk l_m_Desk_told_by_number c_m_Desk_told_by_number k_m_Desk_told_by_number fun _ _ _ _ _ _ us hl => match us, hl with | [_, _, _], _ => rfl
  me_Desk_told := ⟨a_m_Desk_told, i_m_Desk_told, k_m_Desk_told⟩
  fn_m_Desk_told := fnAt_mk l_m_Desk_told c_m_Desk_told k_m_Desk_told fun _ _ _ _ _ _ us hl => match us, hl with | [_, _], _ => rfl
  me_Desk_answer := ⟨a_m_Desk_answer, i_m_Desk_answer, k_m_Desk_answer⟩
  fn_m_Desk_answer := fnAt_mk l_m_Desk_answer c_m_Desk_answer k_m_Desk_answer fun _ _ _ _ _ _ us hl => match us, hl with | [_, _, _], _ => rfl
  g_beginning := PySem.W.mg_of X G g_beginning
  k_beginning := k_f_beginning
  fn_beginning := fnAt_mk l_f_beginning c_f_beginning k_f_beginning fun _ _ _ _ _ _ us hl => match us, hl with | [_], _ => rfl
  g_charged := PySem.W.mg_of X G g_charged
  k_charged := k_f_charged
  fn_charged := fnAt_mk l_f_charged c_f_charged k_f_charged fun _ _ _ _ _ _ us hl => match us, hl with | [_, _, _], _ => rfl
  g_hour_passed := PySem.W.mg_of X G g_hour_passed
  k_hour_passed := k_f_hour_passed
  fn_hour_passed := fnAt_mk l_f_hour_passed c_f_hour_passed k_f_hour_passed fun _ _ _ _ _ _ us hl => match us, hl with | [_, _, _], _ => rfl
  g_state_of := PySem.W.mg_of X G g_state_of
  k_state_of := k_f_state_of
  fn_state_of := fnAt_mk l_f_state_of c_f_state_of k_f_state_of fun _ _ _ _ _ _ us hl => match us, hl with | [_], _ => rfl
  g_continued := PySem.W.mg_of X G g_continued
  k_continued := k_f_continued
  fn_continued := fnAt_mk l_f_continued c_f_continued k_f_continued fun _ _ _ _ _ _ us hl => match us, hl with | [_, _, _], _ => rfl
  g_best_plan := PySem.W.mg_of X G g_best_plan
  k_best_plan := k_f_best_plan
  fn_best_plan := fnAt_mk l_f_best_plan c_f_best_plan k_f_best_plan fun _ _ _ _ _ _ us hl => match us, hl with | [_, _, _], _ => rfl
  g_parted := PySem.W.mg_of X G g_parted
  k_parted := k_f_parted
  fn_parted := fnAt_mk l_f_parted c_f_parted k_f_parted fun _ _ _ _ _ _ us hl => match us, hl with | [_, _], _ => rfl
  g_is_name := PySem.W.mg_of X G g_is_name
  k_is_name := k_f_is_name
  fn_is_name := fnAt_mk l_f_is_name c_f_is_name k_f_is_name fun _ _ _ _ _ _ us hl => match us, hl with | [_], _ => rfl
  g_is_number := PySem.W.mg_of X G g_is_number
  k_is_number := k_f_is_number
  fn_is_number := fnAt_mk l_f_is_number c_f_is_number k_f_is_number fun _ _ _ _ _ _ us hl => match us, hl with | [_], _ => rfl
  g_number_of := PySem.W.mg_of X G g_number_of
  k_number_of := k_f_number_of
  fn_number_of := fnAt_mk l_f_number_of c_f_number_of k_f_number_of fun _ _ _ _ _ _ us hl => match us, hl with | [_], _ => rfl
  g_is_within := PySem.W.mg_of X G g_is_within
  k_is_within := k_f_is_within
  fn_is_within := fnAt_mk l_f_is_within c_f_is_within k_f_is_within fun _ _ _ _ _ _ us hl => match us, hl with | [_, _, _], _ => rfl
  g_is_of := PySem.W.mg_of X G g_is_of
  k_is_of := k_f_is_of
  fn_is_of := fnAt_mk l_f_is_of c_f_is_of k_f_is_of fun _ _ _ _ _ _ us hl => match us, hl with | [_, _], _ => rfl
  g_told_word := PySem.W.mg_of X G g_told_word
  k_told_word := k_f_told_word
  fn_told_word := fnAt_mk l_f_told_word c_f_told_word k_f_told_word fun _ _ _ _ _ _ us hl => match us, hl with | [_], _ => rfl
  g_has_form := PySem.W.mg_of X G g_has_form
  k_has_form := k_f_has_form
  fn_has_form := fnAt_mk l_f_has_form c_f_has_form k_f_has_form fun _ _ _ _ _ _ us hl => match us, hl with | [_, _], _ => rfl
  g_are_within := PySem.W.mg_of X G g_are_within
  k_are_within := k_f_are_within
  fn_are_within := fnAt_mk l_f_are_within c_f_are_within k_f_are_within fun _ _ _ _ _ _ us hl => match us, hl with | [_, _], _ => rfl
  g_read_works := PySem.W.mg_of X G g_read_works
  k_read_works := k_f_read_works
  fn_read_works := fnAt_mk l_f_read_works c_f_read_works k_f_read_works fun _ _ _ _ _ _ us hl => match us, hl with | [_], _ => rfl
  g_want := PySem.W.mg_of X G g_want
  k_want := k_f_want
  fn_want := fnAt_mk l_f_want c_f_want k_f_want fun _ _ _ _ _ _ us hl => match us, hl with | [_, _], _ => rfl
  g_answers := PySem.W.mg_of X G g_answers
  k_answers := k_f_answers
  fn_answers := fnAt_mk l_f_answers c_f_answers k_f_answers fun _ _ _ _ _ _ us hl => match us, hl with | [_], _ => rfl
  k_HOURS_OF_DAY := ⟨_, PySem.W.mg_of X G n_HOURS_OF_DAY⟩
  k_LINE_END := ⟨_, PySem.W.mg_of X G n_LINE_END⟩
  k_BLANK := ⟨_, PySem.W.mg_of X G n_BLANK⟩
  k_MARK := ⟨_, PySem.W.mg_of X G n_MARK⟩
  k_NOUGHT := ⟨_, PySem.W.mg_of X G n_NOUGHT⟩
  k_MOST_NAME := ⟨_, PySem.W.mg_of X G n_MOST_NAME⟩
  k_MOST_FIGURES := ⟨_, PySem.W.mg_of X G n_MOST_FIGURES⟩
  k_NO_WORD := ⟨_, PySem.W.mg_of X G n_NO_WORD⟩
  k_NOT_SO := ⟨_, PySem.W.mg_of X G n_NOT_SO⟩
  k_THERE := ⟨_, PySem.W.mg_of X G n_THERE⟩
  k_OUTSIDE := ⟨_, PySem.W.mg_of X G n_OUTSIDE⟩
  k_TOO_MANY := ⟨_, PySem.W.mg_of X G n_TOO_MANY⟩
  k_LACKING := ⟨_, PySem.W.mg_of X G n_LACKING⟩
  k_MOST_HELD := ⟨_, PySem.W.mg_of X G n_MOST_HELD⟩
  k_MOST_RETORTS := ⟨_, PySem.W.mg_of X G n_MOST_RETORTS⟩
  k_MOST_LEAK := ⟨_, PySem.W.mg_of X G n_MOST_LEAK⟩
  k_MOST_HOURS := ⟨_, PySem.W.mg_of X G n_MOST_HOURS⟩
  k_MOST_GIVEN := ⟨_, PySem.W.mg_of X G n_MOST_GIVEN⟩
  k_MOST_USES := ⟨_, PySem.W.mg_of X G n_MOST_USES⟩
  k_MOST_BURNT := ⟨_, PySem.W.mg_of X G n_MOST_BURNT⟩
  k_LAST_HOUR_reading := ⟨_, PySem.W.mg_of X G n_LAST_HOUR_reading⟩
  k_BAD := ⟨_, PySem.W.mg_of X G n_BAD⟩
  k_NO_TEXT := ⟨_, PySem.W.mg_of X G n_NO_TEXT⟩
  k_NO_PLAN := ⟨_, PySem.W.mg_of X G n_NO_PLAN⟩
  k_NO_WORKS := ⟨_, PySem.W.mg_of X G n_NO_WORKS⟩
  k_LAST_HOUR_works := ⟨_, PySem.W.mg_of X G n_LAST_HOUR_works⟩
  k_MOST_PLANNED := ⟨_, PySem.W.mg_of X G n_MOST_PLANNED⟩
  k_MOST_LASTING := ⟨_, PySem.W.mg_of X G n_MOST_LASTING⟩
  k_READ := ⟨_, PySem.W.mg_of X G n_READ⟩
  k_HOLDER := ⟨_, PySem.W.mg_of X G n_HOLDER⟩
  k_RETORTS := ⟨_, PySem.W.mg_of X G n_RETORTS⟩
  k_LEAK := ⟨_, PySem.W.mg_of X G n_LEAK⟩
  k_CHARGE := ⟨_, PySem.W.mg_of X G n_CHARGE⟩
  k_USE := ⟨_, PySem.W.mg_of X G n_USE⟩
  b_sum := PySem.W.mg_none_of X G z_sum
  b_len := PySem.W.mg_none_of X G z_len
  b_min := PySem.W.mg_none_of X G z_min
  b_max := PySem.W.mg_none_of X G z_max
  b_tuple := PySem.W.mg_none_of X G z_tuple
  b_sorted := PySem.W.mg_none_of X G z_sorted
  b_range := PySem.W.mg_none_of X G z_range
  b_enumerate := PySem.W.mg_none_of X G z_enumerate
  b_all := PySem.W.mg_none_of X G z_all
  b_ord := PySem.W.mg_none_of X G z_ord
  b_int := PySem.W.mg_none_of X G z_int
  b_zip := PySem.W.mg_none_of X G z_zip
  b_list := PySem.W.mg_none_of X G z_list
  b_ValueError := PySem.W.mg_none_of X G z_ValueError
  g_WORDS := PySem.W.mg_of X G g_WORDS
  t_WORDS := fun H => Or.inr ⟨_, _, _, l_WORDS, rfl, rfl, (by show 5 ≤ sizeLine; decide), .cons ⟨_, rfl⟩ (.cons ⟨_, rfl⟩ (.cons ⟨_, rfl⟩ (.cons ⟨_, rfl⟩ (.cons ⟨_, rfl⟩ .nil))))⟩
  g_WITH_NUMBER := PySem.W.mg_of X G g_WITH
  t_WITH_NUMBER := fun H => Or.inr ⟨_, _, _, l_WITH, rfl, rfl, (by show 4 ≤ sizeLine; decide), .cons ⟨_, rfl⟩ (.cons ⟨_, rfl⟩ (.cons ⟨_, rfl⟩ (.cons ⟨_, rfl⟩ .nil)))⟩
  veinit := ve

end G
open PySem PySem.W PyProof.Rows
theorem PySem.Challenge.cw_gasholder_s01_answers_holds : PySem.Challenge.rw_gasholder_s01_answers.Holds := by
  w_on; k_headS; (case hw => exact ⟨[.list [.int 2]], by decide +kernel, by decide +kernel⟩)
  k_fillS
  refine L2.walk_specK (r := PySem.Challenge.rw_gasholder_s01_answers) (k := 16) (CX := L2.CX0) (ps := ["calls"]) (sp := G.spAnswers) (by decide +kernel) rfl rfl ⟨rfl, by decide, by decide⟩ (fun w h Y => PySem.W.kIn_of Y) ?F ?S (fun _ _ _ _ z => z)
  case F =>
    intro w mg fa h Y KX GN hmg
    refine' G.fin ?T hmg
    case T =>
      refine' G.txt_mk KX GN ?g_Use ?in_Use ?if_Use ?pg_Use ?hd_Use ?po_Use ?sa_Use ?mk_Use ?kc_Use ?na_Use_name ?na_Use_many ?na_Use_begin ?na_Use_end ?l_m_Use_init ?c_m_Use_init ?k_m_Use_init ?a_m_Use_does_burn ?i_m_Use_does_burn ?l_m_Use_does_burn ?c_m_Use_does_burn ?k_m_Use_does_burn ?g_Works ?in_Works ?if_Works ?pg_Works ?hd_Works ?po_Works ?sa_Works ?mk_Works ?kc_Works ?na_Works_holds ?na_Works_first ?na_Works_retorts ?na_Works_leak ?na_Works_charge ?na_Works_uses ?l_m_Works_init ?c_m_Works_init ?k_m_Works_init ?a_m_Works_wanted ?i_m_Works_wanted ?l_m_Works_wanted ?c_m_Works_wanted ?k_m_Works_wanted ?a_m_Works_given_by ?i_m_Works_given_by ?l_m_Works_given_by ?c_m_Works_given_by ?k_m_Works_given_by ?g_Moment ?in_Moment ?if_Moment ?pg_Moment ?hd_Moment ?po_Moment ?sa_Moment ?mk_Moment ?kc_Moment ?na_Moment_hours ?na_Moment_held ?na_Moment_left ?l_m_Moment_init ?c_m_Moment_init ?k_m_Moment_init ?a_m_Moment_empty ?i_m_Moment_empty ?l_m_Moment_empty ?c_m_Moment_empty ?k_m_Moment_empty ?g_Told ?in_Told ?if_Told ?pg_Told ?hd_Told ?po_Told ?sa_Told ?mk_Told ?kc_Told ?na_Told_moment ?na_Told_given ?na_Told_burnt ?na_Told_leaked ?na_Told_blown ?na_Told_short ?l_m_Told_init ?c_m_Told_init ?k_m_Told_init ?g_Wrong ?in_Wrong ?xl_Wrong ?sa_Wrong ?ga_Wrong ?gg_Wrong ?ex_Wrong ?ty_Wrong ?kc_Wrong ?hd_Wrong ?ic_Wrong ?sc_Wrong ?ti_Wrong ?na_Wrong_line ?na_Wrong_number ?l_m_Wrong_init ?c_m_Wrong_init ?k_m_Wrong_init ?g_Builder ?in_Builder ?if_Builder ?pg_Builder ?hd_Builder ?po_Builder ?sa_Builder ?mk_Builder ?kc_Builder ?na_Builder_once ?na_Builder_uses ?l_m_Builder_init ?c_m_Builder_init ?k_m_Builder_init ?a_m_Builder_is_there ?i_m_Builder_is_there ?l_m_Builder_is_there ?c_m_Builder_is_there ?k_m_Builder_is_there ?a_m_Builder_are_too_many ?i_m_Builder_are_too_many ?l_m_Builder_are_too_many ?c_m_Builder_are_too_many ?k_m_Builder_are_too_many ?a_m_Builder_fault_of ?i_m_Builder_fault_of ?l_m_Builder_fault_of ?c_m_Builder_fault_of ?k_m_Builder_fault_of ?a_m_Builder_take ?i_m_Builder_take ?l_m_Builder_take ?c_m_Builder_take ?k_m_Builder_take ?a_m_Builder_made ?i_m_Builder_made ?l_m_Builder_made ?c_m_Builder_made ?k_m_Builder_made ?g_Refused ?in_Refused ?xl_Refused ?sa_Refused ?ga_Refused ?gg_Refused ?ex_Refused ?ty_Refused ?kc_Refused ?hd_Refused ?ic_Refused ?sc_Refused ?ti_Refused ?na_Refused_number ?l_m_Refused_init ?c_m_Refused_init ?k_m_Refused_init ?g_Desk ?in_Desk ?if_Desk ?pg_Desk ?hd_Desk ?po_Desk ?sa_Desk ?mk_Desk ?kc_Desk ?na_Desk_works ?na_Desk_moment ?na_Desk_totals ?l_m_Desk_init ?c_m_Desk_init ?k_m_Desk_init ?a_m_Desk_read ?i_m_Desk_read ?l_m_Desk_read ?c_m_Desk_read ?k_m_Desk_read ?a_m_Desk_passes ?i_m_Desk_passes ?l_m_Desk_passes ?c_m_Desk_passes ?k_m_Desk_passes ?a_m_Desk_hour ?i_m_Desk_hour ?l_m_Desk_hour ?c_m_Desk_hour ?k_m_Desk_hour ?a_m_Desk_look ?i_m_Desk_look ?l_m_Desk_look ?c_m_Desk_look ?k_m_Desk_look ?a_m_Desk_wanted_in ?i_m_Desk_wanted_in ?l_m_Desk_wanted_in ?c_m_Desk_wanted_in ?k_m_Desk_wanted_in ?a_m_Desk_best ?i_m_Desk_best ?l_m_Desk_best ?c_m_Desk_best ?k_m_Desk_best ?a_m_Desk_plan ?i_m_Desk_plan ?l_m_Desk_plan ?c_m_Desk_plan ?k_m_Desk_plan ?a_m_Desk_follow ?i_m_Desk_follow ?l_m_Desk_follow ?c_m_Desk_follow ?k_m_Desk_follow ?a_m_Desk_lasts ?i_m_Desk_lasts ?l_m_Desk_lasts ?c_m_Desk_lasts ?k_m_Desk_lasts ?a_m_Desk_told_by_number ?i_m_Desk_told_by_number ?l_m_Desk_told_by_number ?c_m_Desk_told_by_number ?k_m_Desk_told_by_number ?a_m_Desk_told ?i_m_Desk_told ?l_m_Desk_told ?c_m_Desk_told ?k_m_Desk_told ?a_m_Desk_answer ?i_m_Desk_answer ?l_m_Desk_answer ?c_m_Desk_answer ?k_m_Desk_answer ?g_beginning ?l_f_beginning ?c_f_beginning ?k_f_beginning ?g_charged ?l_f_charged ?c_f_charged ?k_f_charged ?g_hour_passed ?l_f_hour_passed ?c_f_hour_passed ?k_f_hour_passed ?g_state_of ?l_f_state_of ?c_f_state_of ?k_f_state_of ?g_continued ?l_f_continued ?c_f_continued ?k_f_continued ?g_best_plan ?l_f_best_plan ?c_f_best_plan ?k_f_best_plan ?g_parted ?l_f_parted ?c_f_parted ?k_f_parted ?g_is_name ?l_f_is_name ?c_f_is_name ?k_f_is_name ?g_is_number ?l_f_is_number ?c_f_is_number ?k_f_is_number ?g_number_of ?l_f_number_of ?c_f_number_of ?k_f_number_of ?g_is_within ?l_f_is_within ?c_f_is_within ?k_f_is_within ?g_is_of ?l_f_is_of ?c_f_is_of ?k_f_is_of ?g_told_word ?l_f_told_word ?c_f_told_word ?k_f_told_word ?g_has_form ?l_f_has_form ?c_f_has_form ?k_f_has_form ?g_are_within ?l_f_are_within ?c_f_are_within ?k_f_are_within ?g_read_works ?l_f_read_works ?c_f_read_works ?k_f_read_works ?g_want ?l_f_want ?c_f_want ?k_f_want ?g_answers ?l_f_answers ?c_f_answers ?k_f_answers ?n_HOURS_OF_DAY ?n_LINE_END ?n_BLANK ?n_MARK ?n_NOUGHT ?n_MOST_NAME ?n_MOST_FIGURES ?n_NO_WORD ?n_NOT_SO ?n_THERE ?n_OUTSIDE ?n_TOO_MANY ?n_LACKING ?n_MOST_HELD ?n_MOST_RETORTS ?n_MOST_LEAK ?n_MOST_HOURS ?n_MOST_GIVEN ?n_MOST_USES ?n_MOST_BURNT ?n_LAST_HOUR_reading ?n_BAD ?n_NO_TEXT ?n_NO_PLAN ?n_NO_WORKS ?n_LAST_HOUR_works ?n_MOST_PLANNED ?n_MOST_LASTING ?n_READ ?n_HOLDER ?n_RETORTS ?n_LEAK ?n_CHARGE ?n_USE ?z_sum ?z_len ?z_min ?z_max ?z_tuple ?z_sorted ?z_range ?z_enumerate ?z_all ?z_ord ?z_int ?z_zip ?z_list ?z_ValueError ?g_WORDS ?l_WORDS ?g_WITH ?l_WITH ?ve
      (case g_Use => k_is)
      (case in_Use => k_is)
      (case if_Use => k_is)
      (case pg_Use => k_is)
      (case hd_Use => k_is)
      (case po_Use => k_is)
      (case sa_Use => k_is)
      (case mk_Use => k_is)
      (case kc_Use => k_is)
      (case na_Use_name => k_is)
      (case na_Use_many => k_is)
      (case na_Use_begin => k_is)
      (case na_Use_end => k_is)
      (case l_m_Use_init => k_is)
      (case c_m_Use_init => k_is)
      (case k_m_Use_init => k_is)
      (case a_m_Use_does_burn => k_is)
      (case i_m_Use_does_burn => k_is)
      (case l_m_Use_does_burn => k_is)
      (case c_m_Use_does_burn => k_is)
      (case k_m_Use_does_burn => k_is)
      (case g_Works => k_is)
      (case in_Works => k_is)
      (case if_Works => k_is)
      (case pg_Works => k_is)
      (case hd_Works => k_is)
      (case po_Works => k_is)
      (case sa_Works => k_is)
      (case mk_Works => k_is)
      (case kc_Works => k_is)
      (case na_Works_holds => k_is)
      (case na_Works_first => k_is)
      (case na_Works_retorts => k_is)
      (case na_Works_leak => k_is)
      (case na_Works_charge => k_is)
      (case na_Works_uses => k_is)
      (case l_m_Works_init => k_is)
      (case c_m_Works_init => k_is)
      (case k_m_Works_init => k_is)
      (case a_m_Works_wanted => k_is)
      (case i_m_Works_wanted => k_is)
      (case l_m_Works_wanted => k_is)
      (case c_m_Works_wanted => k_is)
      (case k_m_Works_wanted => k_is)
      (case a_m_Works_given_by => k_is)
      (case i_m_Works_given_by => k_is)
      (case l_m_Works_given_by => k_is)
      (case c_m_Works_given_by => k_is)
      (case k_m_Works_given_by => k_is)
      (case g_Moment => k_is)
      (case in_Moment => k_is)
      (case if_Moment => k_is)
      (case pg_Moment => k_is)
      (case hd_Moment => k_is)
      (case po_Moment => k_is)
      (case sa_Moment => k_is)
      (case mk_Moment => k_is)
      (case kc_Moment => k_is)
      (case na_Moment_hours => k_is)
      (case na_Moment_held => k_is)
      (case na_Moment_left => k_is)
      (case l_m_Moment_init => k_is)
      (case c_m_Moment_init => k_is)
      (case k_m_Moment_init => k_is)
      (case a_m_Moment_empty => k_is)
      (case i_m_Moment_empty => k_is)
      (case l_m_Moment_empty => k_is)
      (case c_m_Moment_empty => k_is)
      (case k_m_Moment_empty => k_is)
      (case g_Told => k_is)
      (case in_Told => k_is)
      (case if_Told => k_is)
      (case pg_Told => k_is)
      (case hd_Told => k_is)
      (case po_Told => k_is)
      (case sa_Told => k_is)
      (case mk_Told => k_is)
      (case kc_Told => k_is)
      (case na_Told_moment => k_is)
      (case na_Told_given => k_is)
      (case na_Told_burnt => k_is)
      (case na_Told_leaked => k_is)
      (case na_Told_blown => k_is)
      (case na_Told_short => k_is)
      (case l_m_Told_init => k_is)
      (case c_m_Told_init => k_is)
      (case k_m_Told_init => k_is)
      (case g_Wrong => k_is)
      (case in_Wrong => k_is)
      (case xl_Wrong => k_is)
      (case sa_Wrong => k_is)
      (case ga_Wrong => k_is)
      (case gg_Wrong => k_is)
      (case ex_Wrong => k_is)
      (case ty_Wrong => k_is)
      (case kc_Wrong => k_is)
      (case hd_Wrong => k_is)
      (case ic_Wrong => k_is)
      (case sc_Wrong => first | rfl | k_is)
      (case ti_Wrong => k_is)
      (case na_Wrong_line => k_is)
      (case na_Wrong_number => k_is)
      (case l_m_Wrong_init => k_is)
      (case c_m_Wrong_init => k_is)
      (case k_m_Wrong_init => k_is)
      (case g_Builder => k_is)
      (case in_Builder => k_is)
      (case if_Builder => k_is)
      (case pg_Builder => k_is)
      (case hd_Builder => k_is)
      (case po_Builder => k_is)
      (case sa_Builder => k_is)
      (case mk_Builder => k_is)
      (case kc_Builder => k_is)
      (case na_Builder_once => k_is)
      (case na_Builder_uses => k_is)
      (case l_m_Builder_init => k_is)
      (case c_m_Builder_init => k_is)
      (case k_m_Builder_init => k_is)
      (case a_m_Builder_is_there => k_is)
      (case i_m_Builder_is_there => k_is)
      (case l_m_Builder_is_there => k_is)
      (case c_m_Builder_is_there => k_is)
      (case k_m_Builder_is_there => k_is)
      (case a_m_Builder_are_too_many => k_is)
      (case i_m_Builder_are_too_many => k_is)
      (case l_m_Builder_are_too_many => k_is)
      (case c_m_Builder_are_too_many => k_is)
      (case k_m_Builder_are_too_many => k_is)
      (case a_m_Builder_fault_of => k_is)
      (case i_m_Builder_fault_of => k_is)
      (case l_m_Builder_fault_of => k_is)
      (case c_m_Builder_fault_of => k_is)
      (case k_m_Builder_fault_of => k_is)
      (case a_m_Builder_take => k_is)
      (case i_m_Builder_take => k_is)
      (case l_m_Builder_take => k_is)
      (case c_m_Builder_take => k_is)
      (case k_m_Builder_take => k_is)
      (case a_m_Builder_made => k_is)
      (case i_m_Builder_made => k_is)
      (case l_m_Builder_made => k_is)
      (case c_m_Builder_made => k_is)
      (case k_m_Builder_made => k_is)
      (case g_Refused => k_is)
      (case in_Refused => k_is)
      (case xl_Refused => k_is)
      (case sa_Refused => k_is)
      (case ga_Refused => k_is)
      (case gg_Refused => k_is)
      (case ex_Refused => k_is)
      (case ty_Refused => k_is)
      (case kc_Refused => k_is)
      (case hd_Refused => k_is)
      (case ic_Refused => k_is)
      (case sc_Refused => first | rfl | k_is)
      (case ti_Refused => k_is)
      (case na_Refused_number => k_is)
      (case l_m_Refused_init => k_is)
      (case c_m_Refused_init => k_is)
      (case k_m_Refused_init => k_is)
      (case g_Desk => k_is)
      (case in_Desk => k_is)
      (case if_Desk => k_is)
      (case pg_Desk => k_is)
      (case hd_Desk => k_is)
      (case po_Desk => k_is)
      (case sa_Desk => k_is)
      (case mk_Desk => k_is)
      (case kc_Desk => k_is)
      (case na_Desk_works => k_is)
      (case na_Desk_moment => k_is)
      (case na_Desk_totals => k_is)
      (case l_m_Desk_init => k_is)
      (case c_m_Desk_init => k_is)
      (case k_m_Desk_init => k_is)
      (case a_m_Desk_read => k_is)
      (case i_m_Desk_read => k_is)
      (case l_m_Desk_read => k_is)
      (case c_m_Desk_read => k_is)
      (case k_m_Desk_read => k_is)
      (case a_m_Desk_passes => k_is)
      (case i_m_Desk_passes => k_is)
      (case l_m_Desk_passes => k_is)
      (case c_m_Desk_passes => k_is)
      (case k_m_Desk_passes => k_is)
      (case a_m_Desk_hour => k_is)
      (case i_m_Desk_hour => k_is)
      (case l_m_Desk_hour => k_is)
      (case c_m_Desk_hour => k_is)
      (case k_m_Desk_hour => k_is)
      (case a_m_Desk_look => k_is)
      (case i_m_Desk_look => k_is)
      (case l_m_Desk_look => k_is)
      (case c_m_Desk_look => k_is)
      (case k_m_Desk_look => k_is)
      (case a_m_Desk_wanted_in => k_is)
      (case i_m_Desk_wanted_in => k_is)
      (case l_m_Desk_wanted_in => k_is)
      (case c_m_Desk_wanted_in => k_is)
      (case k_m_Desk_wanted_in => k_is)
      (case a_m_Desk_best => k_is)
      (case i_m_Desk_best => k_is)
      (case l_m_Desk_best => k_is)
      (case c_m_Desk_best => k_is)
      (case k_m_Desk_best => k_is)
      (case a_m_Desk_plan => k_is)
      (case i_m_Desk_plan => k_is)
      (case l_m_Desk_plan => k_is)
      (case c_m_Desk_plan => k_is)
      (case k_m_Desk_plan => k_is)
      (case a_m_Desk_follow => k_is)
      (case i_m_Desk_follow => k_is)
      (case l_m_Desk_follow => k_is)
      (case c_m_Desk_follow => k_is)
      (case k_m_Desk_follow => k_is)
      (case a_m_Desk_lasts => k_is)
      (case i_m_Desk_lasts => k_is)
      (case l_m_Desk_lasts => k_is)
      (case c_m_Desk_lasts => k_is)
      (case k_m_Desk_lasts => k_is)
      (case a_m_Desk_told_by_number => k_is)
      (case i_m_Desk_told_by_number => k_is)
      (case l_m_Desk_told_by_number => k_is)
      (case c_m_Desk_told_by_number => k_is)
      (case k_m_Desk_told_by_number => k_is)
      (case a_m_Desk_told => k_is)
      (case i_m_Desk_told => k_is)
      (case l_m_Desk_told => k_is)
      (case c_m_Desk_told => k_is)
      (case k_m_Desk_told => k_is)
      (case a_m_Desk_answer => k_is)
      (case i_m_Desk_answer => k_is)
      (case l_m_Desk_answer => k_is)
      (case c_m_Desk_answer => k_is)
      (case k_m_Desk_answer => k_is)
      (case g_beginning => k_is)
      (case l_f_beginning => k_is)
      (case c_f_beginning => k_is)
      (case k_f_beginning => k_is)
      (case g_charged => k_is)
      (case l_f_charged => k_is)
      (case c_f_charged => k_is)
      (case k_f_charged => k_is)
      (case g_hour_passed => k_is)
      (case l_f_hour_passed => k_is)
      (case c_f_hour_passed => k_is)
      (case k_f_hour_passed => k_is)
      (case g_state_of => k_is)
      (case l_f_state_of => k_is)
      (case c_f_state_of => k_is)
      (case k_f_state_of => k_is)
      (case g_continued => k_is)
      (case l_f_continued => k_is)
      (case c_f_continued => k_is)
      (case k_f_continued => k_is)
      (case g_best_plan => k_is)
      (case l_f_best_plan => k_is)
      (case c_f_best_plan => k_is)
      (case k_f_best_plan => k_is)
      (case g_parted => k_is)
      (case l_f_parted => k_is)
      (case c_f_parted => k_is)
      (case k_f_parted => k_is)
      (case g_is_name => k_is)
      (case l_f_is_name => k_is)
      (case c_f_is_name => k_is)
      (case k_f_is_name => k_is)
      (case g_is_number => k_is)
      (case l_f_is_number => k_is)
      (case c_f_is_number => k_is)
      (case k_f_is_number => k_is)
      (case g_number_of => k_is)
      (case l_f_number_of => k_is)
      (case c_f_number_of => k_is)
      (case k_f_number_of => k_is)
      (case g_is_within => k_is)
      (case l_f_is_within => k_is)
      (case c_f_is_within => k_is)
      (case k_f_is_within => k_is)
      (case g_is_of => k_is)
      (case l_f_is_of => k_is)
      (case c_f_is_of => k_is)
      (case k_f_is_of => k_is)
      (case g_told_word => k_is)
      (case l_f_told_word => k_is)
      (case c_f_told_word => k_is)
      (case k_f_told_word => k_is)
      (case g_has_form => k_is)
      (case l_f_has_form => k_is)
      (case c_f_has_form => k_is)
      (case k_f_has_form => k_is)
      (case g_are_within => k_is)
      (case l_f_are_within => k_is)
      (case c_f_are_within => k_is)
      (case k_f_are_within => k_is)
      (case g_read_works => k_is)
      (case l_f_read_works => k_is)
      (case c_f_read_works => k_is)
      (case k_f_read_works => k_is)
      (case g_want => k_is)
      (case l_f_want => k_is)
      (case c_f_want => k_is)
      (case k_f_want => k_is)
      (case g_answers => k_is)
      (case l_f_answers => k_is)
      (case c_f_answers => k_is)
      (case k_f_answers => k_is)
      (case n_HOURS_OF_DAY => k_is)
      (case n_LINE_END => k_is)
      (case n_BLANK => k_is)
      (case n_MARK => k_is)
      (case n_NOUGHT => k_is)
      (case n_MOST_NAME => k_is)
      (case n_MOST_FIGURES => k_is)
      (case n_NO_WORD => k_is)
      (case n_NOT_SO => k_is)
      (case n_THERE => k_is)
      (case n_OUTSIDE => k_is)
      (case n_TOO_MANY => k_is)
      (case n_LACKING => k_is)
      (case n_MOST_HELD => k_is)
      (case n_MOST_RETORTS => k_is)
      (case n_MOST_LEAK => k_is)
      (case n_MOST_HOURS => k_is)
      (case n_MOST_GIVEN => k_is)
      (case n_MOST_USES => k_is)
      (case n_MOST_BURNT => k_is)
      (case n_LAST_HOUR_reading => k_is)
      (case n_BAD => k_is)
      (case n_NO_TEXT => k_is)
      (case n_NO_PLAN => k_is)
      (case n_NO_WORKS => k_is)
      (case n_LAST_HOUR_works => k_is)
      (case n_MOST_PLANNED => k_is)
      (case n_MOST_LASTING => k_is)
      (case n_READ => k_is)
      (case n_HOLDER => k_is)
      (case n_RETORTS => k_is)
      (case n_LEAK => k_is)
      (case n_CHARGE => k_is)
      (case n_USE => k_is)
      (case z_sum => k_is)
      (case z_len => k_is)
      (case z_min => k_is)
      (case z_max => k_is)
      (case z_tuple => k_is)
      (case z_sorted => k_is)
      (case z_range => k_is)
      (case z_enumerate => k_is)
      (case z_all => k_is)
      (case z_ord => k_is)
      (case z_int => k_is)
      (case z_zip => k_is)
      (case z_list => k_is)
      (case z_ValueError => k_is)
      (case g_WORDS => k_is)
      (case l_WORDS => k_is)
      (case g_WITH => k_is)
      (case l_WITH => k_is)
      (case ve => first | k_is | decide +kernel | kernel_rfl)
  case S =>
    intro K H xs a hO hwi hask hx
    cases hx with
    | cons h1 h2 =>
      cases h2
      cases h1 with
      | lst hs ha =>
        have e := L2.ints_dw a.1 _ ha
        subst e
        exact ⟨_, a.1, rfl, hs, hask, fun H' p hp => .lst (L2.SqL.of hp) (L2.dw_ints _)⟩

