import PyProof.Rows.All
import Wide.All
import OpenK.AllK
import Wide.FinOn
import PyProof.EqAt
import PyProof.EqKinds
import PyProof.TupleCall
import Open.SpecLaws
import KE.OsGo
import HandS.ForSpec
import HandS.Comp
import HandS.Iter
import HandS.ExcInit
import HandS.ExcField
import HandS.Steps
import PySem.Challenge.RW_saltpans_s01_answers
set_option Elab.async false
set_option linter.all false
set_option maxRecDepth 100000
set_option maxHeartbeats 4000000
set_option autoImplicit false
namespace Sal
open Mu17 (Bytes Works Tok)
/-! ### splitting at a byte -/
def spl (c : Nat) : List Nat → List (List Nat)
  | [] => [[]]
  | x :: r => if x = c then [] :: spl c r else match spl c r with
    | [] => [[x]]
    | l :: m => (x :: l) :: m
theorem spl_ne (c : Nat) : ∀ l, spl c l ≠ []
  | [] => by simp [spl]
  | x :: r => by
    unfold spl
    by_cases h : x = c
    · rw [if_pos h]; simp
    · rw [if_neg h]
      cases spl c r <;> simp
theorem spl_lines : ∀ t, spl 10 t = Mu17.lines t
  | [] => rfl
  | x :: r => by
    have ih := spl_lines r
    by_cases h : x = 10
    · subst h
      show (if (10 : Nat) = 10 then [] :: spl 10 r else _) = [] :: Mu17.lines r
      rw [if_pos rfl, ih]
    · have e : Mu17.lines (x :: r) = match Mu17.lines r with
        | [] => [[x]]
        | l :: m => (x :: l) :: m := by
        conv => lhs; unfold Mu17.lines
        split
        · rename_i h1; exact absurd (h1) (by simp)
        · rename_i h1; exact absurd (List.cons.inj h1).1 h
        · rename_i h1; cases (List.cons.inj h1).1; cases (List.cons.inj h1).2; rfl
      rw [e, ← ih]
      show (if x = 10 then _ else _) = _
      rw [if_neg h]
      cases spl 10 r <;> rfl
theorem spl_snoc (c x : Nat) : ∀ pre, ∃ done cur, spl c pre = done ++ [cur] ∧ spl c (pre ++ [x]) = if x = c then done ++ [cur] ++ [[]] else done ++ [cur ++ [x]]
  | [] => by
    refine ⟨[], [], rfl, ?_⟩
    by_cases h : x = c
    · simp [spl, h]
    · simp [spl, h]
  | y :: r => by
    obtain ⟨done, cur, e1, e2⟩ := spl_snoc c x r
    by_cases hy : y = c
    · refine ⟨[] :: done, cur, ?_, ?_⟩
      · show (if y = c then _ else _) = _
        rw [if_pos hy, e1]; rfl
      · show (if y = c then _ else _) = _
        rw [if_pos hy]
        show [] :: spl c (r ++ [x]) = _
        rw [e2]
        by_cases h : x = c
        · rw [if_pos h, if_pos h]; simp
        · rw [if_neg h, if_neg h]; simp
    · cases done with
      | nil =>
        refine ⟨[], y :: cur, ?_, ?_⟩
        · show (if y = c then _ else _) = _
          rw [if_neg hy, e1]; rfl
        · show (if y = c then _ else _) = _
          rw [if_neg hy]
          show (match spl c (r ++ [x]) with | [] => [[y]] | l :: m => (y :: l) :: m) = _
          rw [e2]
          by_cases h : x = c
          · rw [if_pos h, if_pos h]; rfl
          · rw [if_neg h, if_neg h]; rfl
      | cons d ds =>
        refine ⟨(y :: d) :: ds, cur, ?_, ?_⟩
        · show (if y = c then _ else _) = _
          rw [if_neg hy, e1]; rfl
        · show (if y = c then _ else _) = _
          rw [if_neg hy]
          show (match spl c (r ++ [x]) with | [] => [[y]] | l :: m => (y :: l) :: m) = _
          rw [e2]
          by_cases h : x = c
          · rw [if_pos h, if_pos h]; rfl
          · rw [if_neg h, if_neg h]; rfl
/-! ### a line's words -/
def words (l : List Nat) : List (List Nat) := (spl 32 l).filter fun w => w != []
theorem words_nil : words [] = [] := rfl
theorem words_blank (r : List Nat) : words (32 :: r) = words r := by
  unfold words
  show List.filter _ (if (32 : Nat) = 32 then [] :: spl 32 r else _) = _
  rw [if_pos rfl, List.filter_cons_of_neg (by simp)]
theorem spl_word : ∀ (l : List Nat), spl 32 l = l.takeWhile (fun x => x != 32) :: (match l.dropWhile (fun x => x != 32) with | [] => [] | _ :: r => spl 32 r)
  | [] => rfl
  | x :: r => by
    by_cases h : x = 32
    · subst h
      rw [List.takeWhile_cons_of_neg (by decide), List.dropWhile_cons_of_neg (by decide)]
      show (if (32 : Nat) = 32 then _ else _) = _
      rw [if_pos rfl]
    · have hb : (x != 32) = true := by simpa using h
      rw [List.takeWhile_cons_of_pos (p := fun x : Nat => x != 32) hb, List.dropWhile_cons_of_pos (p := fun x : Nat => x != 32) hb]
      show (if x = 32 then _ else _) = _
      rw [if_neg h, spl_word r]
theorem dropWhile_head : ∀ (l : List Nat) {y : Nat} {r : List Nat}, l.dropWhile (fun x => x != 32) = y :: r → y = 32
  | [], y, r, h => by simp at h
  | x :: l, y, r, h => by
    by_cases hx : x = 32
    · subst hx
      rw [List.dropWhile_cons_of_neg (by decide)] at h
      exact (List.cons.inj h).1.symm
    · rw [List.dropWhile_cons_of_pos (by simpa using hx)] at h
      exact dropWhile_head l h
theorem words_cons {c : Nat} (r : List Nat) (h : c ≠ 32) : words (c :: r) = (c :: r).takeWhile (fun x => x != 32) :: words ((c :: r).dropWhile fun x => x != 32) := by
  have hb : (c != 32) = true := by simpa using h
  unfold words
  rw [spl_word (c :: r), List.filter_cons_of_pos (by rw [List.takeWhile_cons_of_pos (p := fun x : Nat => x != 32) hb]; rfl)]
  refine congrArg _ ?_
  cases e : (c :: r).dropWhile (fun x => x != 32) with
  | nil => rfl
  | cons y m =>
    have := dropWhile_head _ e
    subst this
    show (spl 32 m).filter _ = (spl 32 (32 :: m)).filter _
    show _ = List.filter _ (if (32 : Nat) = 32 then [] :: spl 32 m else _)
    rw [if_pos rfl, List.filter_cons_of_neg (by simp)]
theorem words_ne {l : List Nat} {w : List Nat} (h : w ∈ words l) : w ≠ [] := by
  have := (List.mem_filter.mp h).2
  simpa using this
/-! ### words as the program tells them -/
def isName (w : List Nat) : Bool := decide (w.length ≤ 12) && w.all Mu17.small
def isNumber (w : List Nat) : Bool := if decide (4 < w.length) || !w.all Mu17.digit then false else w.length == 1 || w.getD 0 0 != 48
def tokOf (w : List Nat) : Tok := if w.all Mu17.small then .name w else .num (Mu17.numberOf w)
theorem small_not_digit {x : Nat} (h : Mu17.small x = true) : Mu17.digit x = false := by
  unfold Mu17.small at h; unfold Mu17.digit
  simp at h ⊢; omega
theorem toks_words : ∀ (k : Nat) (l : List Nat), l.length < k → Mu17.toks k l = if (words l).all (fun w => isName w || isNumber w) then .ok ((words l).map tokOf) else .error 1
  | 0, l, h => absurd h (Nat.not_lt_zero _)
  | k + 1, [], _ => by
    rw [words_nil]; rfl
  | k + 1, c :: r, h => by
    unfold Mu17.toks
    by_cases hc : c = 32
    · subst hc
      rw [if_pos rfl, words_blank]
      exact toks_words k r (by simpa using h)
    · rw [if_neg hc]
      have hb : (c != 32) = true := by simpa using hc
      have hd : ((c :: r).dropWhile fun x => x != 32).length < k := by
        rw [List.dropWhile_cons_of_pos (p := fun x : Nat => x != 32) hb]
        have := (List.dropWhile_sublist (fun x : Nat => x != 32) (l := r)).length_le
        simp at h; omega
      have ih := toks_words k _ hd
      rw [words_cons r hc]
      generalize hl : (c :: r).dropWhile (fun x => x != 32) = l at ih ⊢
      have hbne : (c :: r).takeWhile (fun x => x != 32) = c :: r.takeWhile (fun x => x != 32) := List.takeWhile_cons_of_pos (p := fun x : Nat => x != 32) hb
      generalize hw : (c :: r).takeWhile (fun x => x != 32) = b at hbne ⊢
      simp only [List.all_cons, List.map_cons]
      rw [ih]
      have hbl : 1 ≤ b.length := by rw [hbne]; simp
      have hb0 : b.getD 0 0 = c := by rw [hbne]; rfl
      by_cases hs : b.all Mu17.small = true
      · rw [if_pos hs]
        have hnd : b.all Mu17.digit = false := by
          rw [hbne] at hs ⊢
          rw [List.all_cons, Bool.and_eq_true] at hs
          rw [List.all_cons, small_not_digit hs.1]; rfl
        have hnum : isNumber b = false := by unfold isNumber; rw [hnd]; simp
        by_cases h12 : 12 < b.length
        · have hn : isName b = false := by unfold isName; rw [decide_eq_false (by omega)]; rfl
          rw [if_pos h12, hn, hnum]; rfl
        · have hn : isName b = true := by unfold isName; rw [decide_eq_true (by omega), hs]; rfl
          have ht : tokOf b = .name b := by unfold tokOf; rw [if_pos hs]
          rw [if_neg h12, hn, ht]
          by_cases hall : ((words l).all fun w => isName w || isNumber w) = true
          · rw [if_pos hall, hall]; rfl
          · rw [if_neg hall]
            rw [Bool.not_eq_true] at hall
            rw [hall]; rfl
      · rw [if_neg hs]
        rw [Bool.not_eq_true] at hs
        have hn : isName b = false := by unfold isName; rw [hs]; simp
        by_cases hdg : b.all Mu17.digit = true
        · rw [if_pos hdg]
          by_cases hbad : 4 < b.length ∨ (1 < b.length ∧ c = 48)
          · have hnum : isNumber b = false := by
              unfold isNumber
              rw [hb0]
              rcases hbad with h4 | ⟨h1, h48⟩
              · rw [decide_eq_true h4]; rfl
              · subst h48
                split
                · rfl
                · have : (b.length == 1) = false := by simp; omega
                  rw [this]; rfl
            rw [if_pos hbad, hn, hnum]; rfl
          · have hnum : isNumber b = true := by
              unfold isNumber
              rw [hb0, hdg, decide_eq_false (by omega)]
              simp
              omega
            have ht : tokOf b = .num (Mu17.numberOf b) := by unfold tokOf; rw [if_neg (by rw [hs]; simp)]
            rw [if_neg hbad, hn, hnum, ht]
            by_cases hall : ((words l).all fun w => isName w || isNumber w) = true
            · rw [if_pos hall, hall]; rfl
            · rw [if_neg hall]
              rw [Bool.not_eq_true] at hall
              rw [hall]; rfl
        · have hnum : isNumber b = false := by
            rw [Bool.not_eq_true] at hdg
            unfold isNumber; rw [hdg]; simp
          rw [if_neg hdg, hn, hnum]; rfl
end Sal
namespace Sal
open Mu17 (Bytes Works Tok)
abbrev kPAN : List Nat := [112, 97, 110]
abbrev kDAY : List Nat := [100, 97, 121]
abbrev kSEA : List Nat := [115, 101, 97]
theorem ascii_pan : Mu17.ascii "pan" = kPAN := by decide
theorem ascii_day : Mu17.ascii "day" = kDAY := by decide
theorem ascii_sea : Mu17.ascii "sea" = kSEA := by decide
def w0 (ws : List (List Nat)) : List Nat := ws.getD 0 []
def asTold (ws : List (List Nat)) : Bool :=
  if w0 ws = kPAN ∨ w0 ws = kDAY then decide (ws.length = 3) && (isNumber (ws.getD 1 []) && isNumber (ws.getD 2 []))
  else decide (w0 ws = kSEA) && (decide (ws.length = 2) && isNumber (ws.getD 1 []))
def tooMany (W : Works) (w : List Nat) : Bool := (decide (w = kPAN) && decide (3 ≤ W.pans.length)) || (decide (w = kDAY) && decide (12 ≤ W.days.length))
def inBounds (w : List Nat) (ns : List Nat) : Bool :=
  if w = kPAN then Mu17.between (ns.getD 0 0) 1 20 && Mu17.between (ns.getD 1 0) 1 999
  else if w = kDAY then decide (ns.getD 0 0 ≤ 20) && decide (ns.getD 1 0 ≤ 20)
  else Mu17.between (ns.getD 0 0) 4 99
def numsOf (ws : List (List Nat)) : List Nat := (ws.drop 1).map Mu17.numberOf
def goodWords (ws : List (List Nat)) : Bool := ws.all fun w => isName w || isNumber w
def fault (W : Works) (ws : List (List Nat)) : Option Nat :=
  if goodWords ws = false then some 1
  else if asTold ws = false then some 2
  else if w0 ws = kSEA ∧ W.sea.isSome = true then some 4
  else if tooMany W (w0 ws) = true then some 6
  else if inBounds (w0 ws) (numsOf ws) = false then some 5
  else none
def took (W : Works) (ws : List (List Nat)) : Works :=
  if w0 ws = kPAN then { W with pans := W.pans ++ [⟨(numsOf ws).getD 0 0, (numsOf ws).getD 1 0⟩] }
  else if w0 ws = kDAY then { W with days := W.days ++ [⟨(numsOf ws).getD 0 0, (numsOf ws).getD 1 0⟩] }
  else { W with sea := some ((numsOf ws).getD 0 0) }
theorem tok_name {w : List Nat} (h : isName w = true) : tokOf w = .name w := by
  unfold isName at h
  rw [Bool.and_eq_true] at h
  unfold tokOf
  rw [if_pos h.2]
theorem number_digits {w : List Nat} (h : isNumber w = true) : w.all Mu17.digit = true := by
  unfold isNumber at h
  cases e : w.all Mu17.digit with
  | true => rfl
  | false => rw [e] at h; simp at h
theorem name_not_number {w : List Nat} (hn : w ≠ []) (h : isName w = true) : isNumber w = false := by
  cases e : isNumber w with
  | false => rfl
  | true =>
    have hd := number_digits e
    unfold isName at h
    rw [Bool.and_eq_true] at h
    cases w with
    | nil => exact absurd rfl hn
    | cons x r =>
      have h1 := h.2
      rw [List.all_cons, Bool.and_eq_true] at h1 hd
      have := small_not_digit h1.1
      rw [this] at hd
      exact absurd hd.1 (by simp)
theorem tok_num {w : List Nat} (hn : w ≠ []) (h : isNumber w = true) : tokOf w = .num (Mu17.numberOf w) := by
  have hd := number_digits h
  unfold tokOf
  cases w with
  | nil => exact absurd rfl hn
  | cons x r =>
    rw [if_neg]
    intro hs
    rw [List.all_cons, Bool.and_eq_true] at hs hd
    have := small_not_digit hs.1
    rw [this] at hd
    exact absurd hd.1 (by simp)
theorem put_law (W : Works) {ws : List (List Nat)} (hne : ws ≠ []) (hw : ∀ w ∈ ws, w ≠ []) (hall : goodWords ws = true) :
    Mu17.put W (ws.map tokOf) = match fault W ws with | some k => .error k | none => .ok (took W ws) := by
  have hg : ∀ w ∈ ws, (isName w = true ∧ isNumber w = false ∧ tokOf w = .name w) ∨ (isNumber w = true ∧ tokOf w = .num (Mu17.numberOf w)) := by
    intro w hm
    have h1 := List.all_eq_true.mp hall w hm
    rw [Bool.or_eq_true] at h1
    rcases h1 with h1 | h1
    · exact .inl ⟨h1, name_not_number (hw w hm) h1, tok_name h1⟩
    · exact .inr ⟨h1, tok_num (hw w hm) h1⟩
  have nP : isNumber kPAN = false := by decide
  have nD : isNumber kDAY = false := by decide
  have nS : isNumber kSEA = false := by decide
  unfold fault
  rw [if_neg (by rw [hall]; simp)]
  match ws, hne, hw, hg with
  | [a], _, _, hg =>
    have ht : asTold [a] = false := by
      unfold asTold w0
      simp
    rw [if_pos ht]
    rcases hg a (by simp) with ⟨h1, h2, h3⟩ | ⟨h1, h3⟩ <;>
      (simp only [List.map_cons, List.map_nil, h3]; rfl)
  | [a, b], _, _, hg =>
    simp only [List.map_cons, List.map_nil]
    rcases hg a (by simp) with ⟨h1, h2, h3⟩ | ⟨h1, h3⟩
    · rcases hg b (by simp) with ⟨g1, g2, g3⟩ | ⟨g1, g3⟩
      · have ht : asTold [a, b] = false := by
          unfold asTold w0
          simp [g2]
        rw [if_pos ht, h3, g3]; rfl
      · rw [h3, g3]
        by_cases e : a = kSEA
        · subst e
          have ht : asTold [kSEA, b] = true := by
            unfold asTold w0
            simp [g1]
          rw [if_neg (by rw [ht]; simp)]
          unfold Mu17.put
          simp only []
          rw [ascii_sea, if_pos rfl]
          cases hs : W.sea with
          | some v =>
            rw [if_pos ⟨rfl, rfl⟩]
            rfl
          | none =>
            rw [if_neg (by simp)]
            have htm : tooMany W (w0 [kSEA, b]) = false := by
              unfold tooMany w0; simp
            rw [if_neg (by rw [htm]; simp)]
            have hib : inBounds (w0 [kSEA, b]) (numsOf [kSEA, b]) = Mu17.between (Mu17.numberOf b) 4 99 := by
              unfold inBounds w0 numsOf; simp
            rw [hib]
            have htk : took W [kSEA, b] = { W with sea := some (Mu17.numberOf b) } := by
              unfold took w0 numsOf; simp
            rw [htk]
            cases hbt : Mu17.between (Mu17.numberOf b) 4 99 with
            | true => rfl
            | false => rfl
        · have ht : asTold [a, b] = false := by
            unfold asTold w0
            simp [e]
          rw [if_pos ht]
          unfold Mu17.put
          simp only []
          rw [ascii_sea, if_neg e]; rfl
    · have ha : a ≠ kSEA := fun e => by subst e; rw [nS] at h1; cases h1
      have ht : asTold [a, b] = false := by
        unfold asTold w0
        simp [ha]
      rw [if_pos ht, h3]; rfl
  | [a, b, c], _, _, hg =>
    simp only [List.map_cons, List.map_nil]
    rcases hg a (by simp) with ⟨h1, h2, h3⟩ | ⟨h1, h3⟩
    · rcases hg b (by simp) with ⟨g1, g2, g3⟩ | ⟨g1, g3⟩
      · have ht : asTold [a, b, c] = false := by
          unfold asTold w0
          simp [g2]
        rw [if_pos ht, h3, g3]
        rcases hg c (by simp) with ⟨f1, f2, f3⟩ | ⟨f1, f3⟩ <;> (rw [f3]; rfl)
      · rcases hg c (by simp) with ⟨f1, f2, f3⟩ | ⟨f1, f3⟩
        · have ht : asTold [a, b, c] = false := by
            unfold asTold w0
            simp [f2]
          rw [if_pos ht, h3, g3, f3]; rfl
        · rw [h3, g3, f3]
          unfold Mu17.put
          simp only []
          rw [ascii_pan, ascii_day]
          by_cases e : a = kPAN
          · subst e
            have ht : asTold [kPAN, b, c] = true := by
              unfold asTold w0
              simp [g1, f1]
            rw [if_pos rfl, if_neg (show ¬ asTold [kPAN, b, c] = false by rw [ht]; simp), if_neg (by unfold w0; simp)]
            have htm : tooMany W (w0 [kPAN, b, c]) = decide (3 ≤ W.pans.length) := by
              unfold tooMany w0; simp
            rw [htm]
            have hib : inBounds (w0 [kPAN, b, c]) (numsOf [kPAN, b, c]) = (Mu17.between (Mu17.numberOf b) 1 20 && Mu17.between (Mu17.numberOf c) 1 999) := by
              unfold inBounds w0 numsOf; simp
            rw [hib]
            have htk : took W [kPAN, b, c] = { W with pans := W.pans ++ [⟨Mu17.numberOf b, Mu17.numberOf c⟩] } := by
              unfold took w0 numsOf; simp
            rw [htk]
            by_cases hl : W.pans.length < 3
            · have e1 : decide (W.pans.length < 3) = true := decide_eq_true hl
              have e2 : decide (3 ≤ W.pans.length) = false := decide_eq_false (by omega)
              rw [e1, e2]
              cases hbt : (Mu17.between (Mu17.numberOf b) 1 20 && Mu17.between (Mu17.numberOf c) 1 999) with
              | true => rfl
              | false => rfl
            · have e1 : decide (W.pans.length < 3) = false := decide_eq_false hl
              have e2 : decide (3 ≤ W.pans.length) = true := decide_eq_true (by omega)
              rw [e1, e2]
              rfl
          · by_cases e' : a = kDAY
            · subst e'
              have ht : asTold [kDAY, b, c] = true := by
                unfold asTold w0
                simp [g1, f1]
              rw [if_neg e, if_pos rfl, if_neg (show ¬ asTold [kDAY, b, c] = false by rw [ht]; simp), if_neg (by unfold w0; simp)]
              have htm : tooMany W (w0 [kDAY, b, c]) = decide (12 ≤ W.days.length) := by
                unfold tooMany w0; simp
              rw [htm]
              have hib : inBounds (w0 [kDAY, b, c]) (numsOf [kDAY, b, c]) = (decide (Mu17.numberOf b ≤ 20) && decide (Mu17.numberOf c ≤ 20)) := by
                unfold inBounds w0 numsOf; simp
              rw [hib]
              have htk : took W [kDAY, b, c] = { W with days := W.days ++ [⟨Mu17.numberOf b, Mu17.numberOf c⟩] } := by
                unfold took w0 numsOf; simp
              rw [htk]
              by_cases hl : W.days.length < 12
              · have e1 : decide (W.days.length < 12) = true := decide_eq_true hl
                have e2 : decide (12 ≤ W.days.length) = false := decide_eq_false (by omega)
                rw [e1, e2]
                cases hbt : (decide (Mu17.numberOf b ≤ 20) && decide (Mu17.numberOf c ≤ 20)) with
                | true => rfl
                | false => rfl
              · have e1 : decide (W.days.length < 12) = false := decide_eq_false hl
                have e2 : decide (12 ≤ W.days.length) = true := decide_eq_true (by omega)
                rw [e1, e2]
                rfl
            · have ht : asTold [a, b, c] = false := by
                unfold asTold w0
                simp [e, e']
              rw [if_pos ht, if_neg e, if_neg e']; rfl
    · have ha : a ≠ kPAN := fun e => by subst e; rw [nP] at h1; cases h1
      have ha' : a ≠ kDAY := fun e => by subst e; rw [nD] at h1; cases h1
      have ht : asTold [a, b, c] = false := by
        unfold asTold w0
        simp [ha, ha']
      rw [if_pos ht, h3]; rfl
  | a :: b :: c :: d :: r, _, _, hg =>
    have ht : asTold (a :: b :: c :: d :: r) = false := by
      unfold asTold w0
      simp
    rw [if_pos ht]
    simp only [List.map_cons]
    unfold Mu17.put
    rcases hg a (by simp) with ⟨h1, h2, h3⟩ | ⟨h1, h3⟩
    · rcases hg b (by simp) with ⟨g1, g2, g3⟩ | ⟨g1, g3⟩
      · rw [h3, g3]; rfl
      · rcases hg c (by simp) with ⟨f1, f2, f3⟩ | ⟨f1, f3⟩
        · rw [h3, g3, f3]; rfl
        · rw [h3, g3, f3]; rfl
    · rw [h3]; rfl
/-- a line of the text, as the program goes -/
theorem line_law (W : Works) (n : Nat) (l : List Nat) (r : List (List Nat)) : Mu17.readFrom W n (l :: r) =
    if l.head? = some 35 ∨ words l = [] then Mu17.readFrom W (n + 1) r else match fault W (words l) with
      | some k => .error (n, k)
      | none => Mu17.readFrom (took W (words l)) (n + 1) r := by
  conv => lhs; unfold Mu17.readFrom
  by_cases h : l.head? = some 35
  · rw [if_pos h, if_pos (.inl h)]
  · rw [if_neg h]
    rw [toks_words (l.length + 1) l (Nat.lt_succ_self _)]
    by_cases hw : words l = []
    · rw [if_pos (show l.head? = some 35 ∨ words l = [] from .inr hw), hw]; rfl
    · rw [if_neg (show ¬ (l.head? = some 35 ∨ words l = []) by rintro (q | q); exact h q; exact hw q)]
      by_cases hg : goodWords (words l) = true
      · have hg' : ((words l).all fun w => isName w || isNumber w) = true := hg
        rw [if_pos hg']
        have := put_law W hw (fun w => words_ne) hg
        cases hm : (words l).map tokOf with
        | nil => exact absurd (List.map_eq_nil_iff.mp hm) hw
        | cons t ts =>
          rw [hm] at this
          simp only []
          rw [this]
          cases fault W (words l) <;> rfl
      · have hg' : ¬ ((words l).all fun w => isName w || isNumber w) = true := hg
        rw [if_neg hg']
        have hf : fault W (words l) = some 1 := by
          unfold fault
          rw [if_pos (by simpa using hg)]
        rw [hf]
/-! ### what a text may tell -/
structure WOk (W : Works) : Prop where
  np : W.pans.length ≤ 3
  pb : ∀ p ∈ W.pans, 1 ≤ p.area ∧ p.area ≤ 20 ∧ 1 ≤ p.holds ∧ p.holds ≤ 999
  nd : W.days.length ≤ 12
  db : ∀ d ∈ W.days, d.sun ≤ 20 ∧ d.rain ≤ 20
  sb : ∀ n, W.sea = some n → 4 ≤ n ∧ n ≤ 99
theorem WOk.empty : WOk {} := ⟨by decide, by simp, by decide, by simp, by simp⟩
theorem WOk.took {W : Works} (ok : WOk W) {ws : List (List Nat)} (h : fault W ws = none) : WOk (took W ws) := by
  unfold fault at h
  split at h; · cases h
  split at h; · cases h
  split at h; · cases h
  split at h; · cases h
  split at h; · cases h
  rename_i h1 h2 h3 h4 h5
  unfold Sal.took
  unfold tooMany at h4
  unfold inBounds at h5
  split
  · rename_i e
    simp [e, Mu17.between] at h4 h5
    refine ⟨?_, ?_, ok.nd, ok.db, ok.sb⟩
    · simp; omega
    · intro p hp
      simp at hp
      rcases hp with hp | hp
      · exact ok.pb p hp
      · subst hp; exact ⟨h5.1, h5.2.1, h5.2.2.1, h5.2.2.2⟩
  · rename_i e
    split
    · rename_i e'
      simp [e', Mu17.between] at h4 h5
      refine ⟨ok.np, ok.pb, ?_, ?_, ok.sb⟩
      · simp; omega
      · intro p hp
        simp at hp
        rcases hp with hp | hp
        · exact ok.db p hp
        · subst hp; exact ⟨h5.1, h5.2⟩
    · rename_i e'
      rw [if_neg e, if_neg e'] at h5
      simp [Mu17.between] at h5
      refine ⟨ok.np, ok.pb, ok.nd, ok.db, ?_⟩
      intro n hn
      simp at hn
      subst hn
      simpa using h5
end Sal
namespace Sal
open Mu17 (Works State Brine Deed Pan Day)
/-! ### how it may stand -/
structure WF (s : State) : Prop where
  wk : WOk s.works
  p1 : 1 ≤ s.works.pans.length
  d1 : 1 ≤ s.works.days.length
  se : ∃ n, s.works.sea = some n
  ln : s.pans.length = s.works.pans.length
  wl : ∀ i, (Mu17.at_ s i).water ≤ (Mu17.panOf s i).holds
theorem at_some {s : State} {i : Nat} {b : Brine} (h : s.pans[i]? = some b) : Mu17.at_ s i = b := by
  unfold Mu17.at_; rw [List.getD_eq_getElem?_getD, h]; rfl
theorem at_none {s : State} {i : Nat} (h : s.pans.length ≤ i) : Mu17.at_ s i = ⟨0, 0⟩ := by
  unfold Mu17.at_; rw [List.getD_eq_getElem?_getD, List.getElem?_eq_none h]; rfl
theorem pan_some {s : State} {i : Nat} {b : Pan} (h : s.works.pans[i]? = some b) : Mu17.panOf s i = b := by
  unfold Mu17.panOf; rw [List.getD_eq_getElem?_getD, h]; rfl
theorem at_get {s : State} {i : Nat} (h : i < s.pans.length) : s.pans[i]? = some (Mu17.at_ s i) := by
  rw [List.getElem?_eq_getElem h, at_some (List.getElem?_eq_getElem h)]
theorem pan_get {s : State} {i : Nat} (h : i < s.works.pans.length) : s.works.pans[i]? = some (Mu17.panOf s i) := by
  rw [List.getElem?_eq_getElem h, pan_some (List.getElem?_eq_getElem h)]
theorem WF.pb {s : State} (w : WF s) {i : Nat} (h : i < s.pans.length) : 1 ≤ (Mu17.panOf s i).area ∧ (Mu17.panOf s i).area ≤ 20 ∧ 1 ≤ (Mu17.panOf s i).holds ∧ (Mu17.panOf s i).holds ≤ 999 :=
  w.wk.pb _ (List.mem_of_getElem? (pan_get (w.ln ▸ h)))
theorem WF.db {s : State} (w : WF s) : (Mu17.dayOf s).sun ≤ 20 ∧ (Mu17.dayOf s).rain ≤ 20 := by
  have h : s.day % s.works.days.length < s.works.days.length := Nat.mod_lt _ w.d1
  have e : s.works.days[s.day % s.works.days.length]? = some (Mu17.dayOf s) := by
    unfold Mu17.dayOf
    rw [List.getD_eq_getElem?_getD, List.getElem?_eq_getElem h]; rfl
  exact w.wk.db _ (List.mem_of_getElem? e)
theorem begun_wf {W : Works} (ok : WOk W) (h1 : W.pans ≠ []) (h2 : W.days ≠ []) (h3 : W.sea.isSome = true) : WF (Mu17.begun W) := by
  refine ⟨ok, ?_, ?_, ?_, ?_, ?_⟩
  · show 1 ≤ W.pans.length
    exact List.length_pos_iff.mpr h1
  · show 1 ≤ W.days.length
    exact List.length_pos_iff.mpr h2
  · exact Option.isSome_iff_exists.mp h3
  · show (W.pans.map _).length = W.pans.length
    simp
  · intro i
    have : (Mu17.at_ (Mu17.begun W) i).water = 0 := by
      unfold Mu17.at_ Mu17.begun
      rw [List.getD_eq_getElem?_getD, List.getElem?_map]
      cases W.pans[i]? <;> rfl
    omega
/-! ### what a deed and a day keep -/
theorem flow_works (s : State) (i : Nat) : (Mu17.flow s i).works = s.works := by
  unfold Mu17.flow; simp only []; split <;> rfl
theorem flow_len (s : State) (i : Nat) : (Mu17.flow s i).pans.length = s.pans.length := by
  unfold Mu17.flow; simp only []; split <;> simp
theorem deed_works (s : State) (d : Deed) : (Mu17.deed s d).works = s.works := by
  cases d with
  | rest => rfl
  | fill => rfl
  | rake => rfl
  | open_ i => unfold Mu17.deed; simp only []; split; rfl; exact flow_works s i
theorem deed_len (s : State) (d : Deed) : (Mu17.deed s d).pans.length = s.pans.length := by
  cases d with
  | rest => rfl
  | fill => simp [Mu17.deed]
  | rake => simp [Mu17.deed]
  | open_ i => unfold Mu17.deed; simp only []; split; rfl; exact flow_len s i
theorem pass_works (s : State) : (Mu17.pass s).works = s.works := rfl
theorem pass_len (s : State) (h : s.pans.length = s.works.pans.length) : (Mu17.pass s).pans.length = s.pans.length := by
  unfold Mu17.pass; simp [h]
theorem live_works (s : State) (d : Deed) : (Mu17.live s d).works = s.works := by
  unfold Mu17.live; rw [pass_works, deed_works]
theorem live_len (s : State) (d : Deed) (h : s.pans.length = s.works.pans.length) : (Mu17.live s d).pans.length = s.pans.length := by
  unfold Mu17.live
  rw [pass_len _ (by rw [deed_len, deed_works, h]), deed_len]
theorem pass_at {s : State} {i : Nat} (h : i < s.pans.length) (hl : s.pans.length = s.works.pans.length) : Mu17.at_ (Mu17.pass s) i = (Mu17.weather (Mu17.dayOf s) (Mu17.panOf s i) (Mu17.at_ s i)).1 := by
  apply at_some
  unfold Mu17.pass
  simp only []
  rw [List.getElem?_map, List.getElem?_zipWith, at_get h, pan_get (hl ▸ h)]
  rfl
theorem pass_wf {s : State} (w : WF { s with pans := s.pans }) : WF (Mu17.pass s) := by
  have hl : (Mu17.pass s).pans.length = s.pans.length := pass_len s w.ln
  refine ⟨w.wk, w.p1, w.d1, w.se, by rw [hl]; exact w.ln, fun i => ?_⟩
  by_cases h : i < s.pans.length
  · rw [pass_at h w.ln]
    show (Mu17.weather (Mu17.dayOf s) (Mu17.panOf s i) (Mu17.at_ s i)).1.water ≤ (Mu17.panOf s i).holds
    unfold Mu17.weather
    simp only []
    omega
  · rw [at_none (by rw [hl]; omega)]
    exact Nat.zero_le _
theorem set_at {s : State} {l : List Brine} {i j : Nat} {b : Brine} (h : i < s.pans.length) : Mu17.at_ { s with pans := s.pans.set i b } j = if j = i then b else Mu17.at_ s j := by
  unfold Mu17.at_
  simp only [List.getD_eq_getElem?_getD, List.getElem?_set]
  by_cases e : j = i
  · subst e; simp [h]
  · rw [if_neg e, if_neg (fun q => e q.symm)]
theorem deed_wf {s : State} (w : WF s) (d : Deed) : WF (Mu17.deed s d) := by
  have hw := deed_works s d
  have hl := deed_len s d
  refine ⟨by rw [hw]; exact w.wk, by rw [hw]; exact w.p1, by rw [hw]; exact w.d1, by rw [hw]; exact w.se, by rw [hl, hw]; exact w.ln, fun i => ?_⟩
  have hp : Mu17.panOf (Mu17.deed s d) i = Mu17.panOf s i := by unfold Mu17.panOf; rw [hw]
  rw [hp]
  have w0 := w.wl i
  cases d with
  | rest => exact w0
  | fill =>
    have h0 : 0 < s.pans.length := by have := w.p1; have := w.ln; omega
    have e : Mu17.at_ (Mu17.deed s .fill) i = if i = 0 then ⟨(Mu17.at_ s 0).water + ((Mu17.panOf s 0).holds - (Mu17.at_ s 0).water), (Mu17.at_ s 0).salt + ((Mu17.panOf s 0).holds - (Mu17.at_ s 0).water) / Mu17.sea s⟩ else Mu17.at_ s i :=
      set_at (l := s.pans) (s := s) h0
    rw [e]
    split
    · rename_i z; subst z; simp only []; omega
    · exact w0
  | rake =>
    have e : (Mu17.at_ (Mu17.deed s .rake) i).water = (Mu17.at_ s i).water := by
      unfold Mu17.deed Mu17.at_
      simp only []
      rw [List.getD_eq_getElem?_getD, List.getD_eq_getElem?_getD, List.getElem?_map]
      cases s.pans[i]? <;> rfl
    rw [e]; exact w0
  | open_ k =>
    by_cases hk : s.pans.length ≤ k
    · have e : Mu17.deed s (.open_ k) = s := if_pos hk
      rw [e]; exact w0
    · have e : Mu17.deed s (.open_ k) = Mu17.flow s k := if_neg hk
      rw [e]
      have hk' : k < s.pans.length := by omega
      unfold Mu17.flow
      simp only []
      by_cases hlast : k + 1 = s.pans.length
      · rw [decide_eq_true hlast]
        simp only [if_true]
        have := set_at (l := s.pans) (s := s) (j := i) (b := ⟨(Mu17.at_ s k).water - (Mu17.at_ s k).water, (Mu17.at_ s k).salt - (if (Mu17.at_ s k).water = 0 then 0 else Mu17.melted (Mu17.at_ s k) * (Mu17.at_ s k).water / (Mu17.at_ s k).water)⟩) hk'
        refine Nat.le_trans (Nat.le_of_eq (congrArg Brine.water (show _ = _ from this))) ?_
        split
        · simp only []; omega
        · exact w0
      · rw [decide_eq_false hlast]
        simp only [Bool.false_eq_true, if_false]
        unfold Mu17.at_
        simp only [List.getD_eq_getElem?_getD, List.getElem?_set, List.length_set]
        have w1 := w.wl (k + 1)
        by_cases e1 : k + 1 = i
        · subst e1
          have : k + 1 < s.pans.length := by omega
          rw [if_pos rfl, if_pos this]
          simp only [Option.getD_some]
          have a1 : Mu17.at_ s (k + 1) = (s.pans[k + 1]?).getD ⟨0, 0⟩ := by unfold Mu17.at_; rw [List.getD_eq_getElem?_getD]
          rw [← a1]
          omega
        · rw [if_neg e1]
          by_cases e2 : k = i
          · subst e2
            rw [if_pos rfl, if_pos hk']
            simp only [Option.getD_some]
            have a1 : Mu17.at_ s k = (s.pans[k]?).getD ⟨0, 0⟩ := by unfold Mu17.at_; rw [List.getD_eq_getElem?_getD]
            rw [← a1]
            omega
          · rw [if_neg e2]
            have a1 : Mu17.at_ s i = (s.pans[i]?).getD ⟨0, 0⟩ := by unfold Mu17.at_; rw [List.getD_eq_getElem?_getD]
            rw [← a1]; exact w0
theorem live_wf {s : State} (w : WF s) (d : Deed) : WF (Mu17.live s d) := pass_wf (deed_wf w d)
theorem pour_wf {s : State} (w : WF s) {i wa n : Nat} (hi : i < s.pans.length) (h : (Mu17.at_ s i).water + wa ≤ (Mu17.panOf s i).holds) :
    WF { s with pans := s.pans.set i ⟨(Mu17.at_ s i).water + wa, (Mu17.at_ s i).salt + n⟩, salted := s.salted + n } := by
  refine ⟨w.wk, w.p1, w.d1, w.se, ?_, fun j => ?_⟩
  · show (s.pans.set _ _).length = _
    rw [List.length_set]; exact w.ln
  · have e := set_at (l := s.pans) (s := s) (j := j) (b := ⟨(Mu17.at_ s i).water + wa, (Mu17.at_ s i).salt + n⟩) hi
    refine Nat.le_trans (Nat.le_of_eq (congrArg Brine.water (show _ = _ from e))) ?_
    split
    · rename_i z; subst z; exact h
    · exact w.wl j
/-! ### the best row -/
def wk (row : List Nat) : Nat := (row.filter fun d => d != 0).length
structure Fnd where
  store : Int
  many : Nat
  row : List Nat
def Fnd.keep (F : Fnd) (st : Nat) (row : List Nat) : Fnd := if F.store < (st : Int) ∨ ((st : Int) = F.store ∧ wk row < F.many) then ⟨st, wk row, row⟩ else F
def lookM : Nat → State → List Nat → Fnd → Fnd
  | 0, s, pre, F => F.keep s.store pre
  | n + 1, s, pre, F => (List.range (3 + s.pans.length)).foldl (fun F d => lookM n (Mu17.live s (Mu17.deedOf d)) (pre ++ [d]) F) F
theorem code_deed (k : Nat) : Mu17.codeOf (Mu17.deedOf k) = k := by
  match k with
  | 0 => rfl
  | 1 => rfl
  | 2 => rfl
  | k + 3 => show (k + 3 - 3) + 3 = k + 3; omega
theorem deeds_range (s : State) : (List.range (3 + s.pans.length)).map Mu17.deedOf = Mu17.deeds s := by
  rw [Nat.add_comm]
  unfold Mu17.deeds
  generalize s.pans.length = n
  rw [show n + 3 = 3 + n by omega, List.range_add, List.map_append]
  have : (List.range 3).map Mu17.deedOf = [.rest, .fill, .rake] := by decide
  rw [this, List.map_map]
  refine congrArg _ (List.map_congr_left fun i _ => ?_)
  show Mu17.deedOf (3 + i) = _
  rw [show 3 + i = i + 3 by omega]
  show Deed.open_ (i + 3 - 3) = _
  rw [show i + 3 - 3 = i by omega]
theorem foldl_flatMap' {α β γ : Type} (f : γ → β → γ) (g : α → List β) : ∀ (l : List α) (a : γ), (l.flatMap g).foldl f a = l.foldl (fun a x => (g x).foldl f a) a
  | [], a => rfl
  | x :: l, a => by
    rw [List.flatMap_cons, List.foldl_append, List.foldl_cons]
    exact foldl_flatMap' f g l _
theorem foldl_congr' {α γ : Type} {f g : γ → α → γ} : ∀ (l : List α) (a : γ), (∀ a x, x ∈ l → f a x = g a x) → l.foldl f a = l.foldl g a
  | [], a, _ => rfl
  | x :: l, a, h => by
    rw [List.foldl_cons, List.foldl_cons, h a x (by simp)]
    exact foldl_congr' l _ fun a y hy => h a y (by simp [hy])
theorem deeds_live {s : State} (w : WF s) (d : Deed) : Mu17.deeds (Mu17.live s d) = Mu17.deeds s := by
  unfold Mu17.deeds; rw [live_len s d w.ln]
theorem look_law : ∀ (n : Nat) (s : State) (pre : List Nat) (F : Fnd), WF s →
    lookM n s pre F = (Mu17.plans (Mu17.deeds s) n).foldl (fun F r => F.keep (Mu17.lives s r).store (pre ++ r.map Mu17.codeOf)) F
  | 0, s, pre, F, _ => by
    show F.keep s.store pre = F.keep s.store (pre ++ [])
    rw [List.append_nil]
  | n + 1, s, pre, F, w => by
    show (List.range (3 + s.pans.length)).foldl _ F = ((Mu17.deeds s).flatMap _).foldl _ F
    rw [foldl_flatMap', ← deeds_range, List.foldl_map]
    refine foldl_congr' _ _ fun G d _ => ?_
    rw [look_law n _ _ _ (live_wf w _), List.foldl_map, deeds_range, deeds_live w]
    refine foldl_congr' _ _ fun K r _ => ?_
    rw [List.map_cons, code_deed, List.append_assoc]
    rfl
theorem wk_work : ∀ l : List Deed, wk (l.map Mu17.codeOf) = Mu17.work l
  | [] => rfl
  | d :: l => by
    have ih := wk_work l
    unfold wk Mu17.work at ih ⊢
    rw [List.map_cons, List.filter_cons, List.filter_cons]
    cases d with
    | rest => exact ih
    | fill => show List.length (_ :: _) = List.length (_ :: _); rw [List.length_cons, List.length_cons, ih]
    | rake => show List.length (_ :: _) = List.length (_ :: _); rw [List.length_cons, List.length_cons, ih]
    | open_ i => show List.length (_ :: _) = List.length (_ :: _); rw [List.length_cons, List.length_cons, ih]
def fndOf (s : State) (m : List Deed) : Fnd := ⟨((Mu17.lives s m).store : Int), Mu17.work m, m.map Mu17.codeOf⟩
theorem keep_better (s : State) (m a : List Deed) : (fndOf s m).keep (Mu17.lives s a).store (a.map Mu17.codeOf) = fndOf s (if Mu17.betterOf s a m = true then a else m) := by
  unfold Fnd.keep
  rw [wk_work]
  by_cases h : Mu17.betterOf s a m = true
  · rw [if_pos h, if_pos]
    · rfl
    · unfold Mu17.betterOf at h
      simp at h
      rcases h with h | h
      · left; show ((Mu17.lives s m).store : Int) < _; omega
      · right; exact ⟨by show _ = ((Mu17.lives s m).store : Int); omega, h.2⟩
  · rw [if_neg h, if_neg]
    intro q
    apply h
    unfold Mu17.betterOf
    simp
    rcases q with q | q
    · left
      have : ((Mu17.lives s m).store : Int) < ((Mu17.lives s a).store : Int) := q
      omega
    · right
      have : ((Mu17.lives s a).store : Int) = ((Mu17.lives s m).store : Int) := q.1
      exact ⟨by omega, q.2⟩
theorem fold_better (s : State) : ∀ (L : List (List Deed)) (m : List Deed), L.foldl (fun F r => F.keep (Mu17.lives s r).store (r.map Mu17.codeOf)) (fndOf s m) = fndOf s (L.foldl (fun m a => if Mu17.betterOf s a m = true then a else m) m)
  | [], m => rfl
  | a :: L, m => by
    rw [List.foldl_cons, List.foldl_cons, keep_better]
    exact fold_better s L _
theorem plans_first (l : List Deed) (h : l.head? = some .rest) : ∀ n, (Mu17.plans l n).head? = some (List.replicate n .rest)
  | 0 => rfl
  | n + 1 => by
    have ih := plans_first l h n
    cases l with
    | nil => cases h
    | cons d l =>
      cases Option.some.inj h
      show (List.flatMap _ _).head? = _
      rw [List.flatMap_cons]
      cases e : Mu17.plans (Deed.rest :: l) n with
      | nil => rw [e] at ih; cases ih
      | cons p ps =>
        rw [e] at ih
        cases Option.some.inj ih
        rfl
theorem better_self (s : State) (m : List Deed) : Mu17.betterOf s m m = false := by
  unfold Mu17.betterOf; simp
theorem best_law {s : State} (w : WF s) (n : Nat) : lookM n s [] ⟨-1, 0, []⟩ = fndOf s (Mu17.best s n) := by
  rw [look_law n s [] _ w]
  unfold Mu17.best
  have hf := plans_first (Mu17.deeds s) rfl n
  cases e : Mu17.plans (Mu17.deeds s) n with
  | nil => rw [e] at hf; cases hf
  | cons p ps =>
    rw [e] at hf
    cases Option.some.inj hf
    rw [List.foldl_cons, List.foldl_cons, better_self]
    simp only [List.nil_append]
    have e1 : (Fnd.keep ⟨-1, 0, []⟩ (Mu17.lives s (List.replicate n Deed.rest)).store ((List.replicate n Deed.rest).map Mu17.codeOf)) = fndOf s (List.replicate n .rest) := by
      unfold Fnd.keep
      rw [if_pos (Or.inl (by show (-1 : Int) < _; omega)), wk_work]
      rfl
    rw [e1, if_neg Bool.false_ne_true]
    exact fold_better s ps _
end Sal
namespace Sal
open Mu17 (Works State Brine Deed Pan Day)
theorem whole_self (c : List (List Int)) : PyMu17.whole c = c := by
  unfold PyMu17.whole
  split <;> rfl
/-- how many whole numbers a call that isn't read has -/
def nums (p : Int) : Nat := if p = 4 then 0 else if p = 7 then 3 else 1
structure FlatRead (r : List Int) (c : List (List Int)) (t : List Int) : Prop where
  ex : ∃ text : List Int, r = (text.length : Int) :: (text ++ t) ∧ c = [[0], text]
structure FlatOther (p : Int) (r : List Int) (c : List (List Int)) (t : List Int) : Prop where
  ex : ∃ args : List Int, r = args ++ t ∧ c = [p :: args] ∧ args.length = nums p ∧ 1 ≤ p ∧ p ≤ 7
theorem flat_call {p : Int} {r : List Int} {c : List (List Int)} {t : List Int} (h : PyFlat.call PyMu17.shape (p :: r) = some (c, t)) :
    (p = 0 ∧ FlatRead r c t) ∨ (p ≠ 0 ∧ FlatOther p r c t) := by
  have hcall : PyFlat.call PyMu17.shape (p :: r) = match PyMu17.shape p with
    | none => none
    | some (n, k) => if r.length < n then none else match PyFlat.rows k (r.drop n) with
      | none => none
      | some (xs, t) => some ((p :: r.take n) :: xs, t) := rfl
  rw [hcall] at h
  clear hcall
  have other : ∀ n : Nat, n = nums p → 1 ≤ p → p ≤ 7 → PyMu17.shape p = some (n, 0) → FlatOther p r c t := by
    intro n hn h1 h7 hs
    rw [hs] at h
    simp only [] at h
    split at h
    · cases h
    · rename_i hl
      simp only [PyFlat.rows] at h
      have h := Option.some.inj h
      have e1 := (Prod.mk.inj h).1
      have e2 := (Prod.mk.inj h).2
      refine ⟨r.take n, ?_, e1.symm, ?_, h1, h7⟩
      · rw [← e2, List.take_append_drop]
      · rw [List.length_take, ← hn]; omega
  by_cases h0 : p = 0
  · subst h0
    left
    refine ⟨rfl, ?_⟩
    have hs : PyMu17.shape 0 = some (0, 1) := rfl
    rw [hs] at h
    simp only [Nat.not_lt_zero, if_false, List.drop_zero, List.take_zero] at h
    unfold PyFlat.rows at h
    cases r with
    | nil => simp [PyFlat.row] at h
    | cons n r =>
      rw [show PyFlat.row (n :: r) = if 0 ≤ n ∧ n.toNat ≤ r.length then some (r.take n.toNat, r.drop n.toNat) else none from rfl] at h
      by_cases hc : 0 ≤ n ∧ n.toNat ≤ r.length
      · rw [if_pos hc] at h
        simp only [PyFlat.rows] at h
        have h := Option.some.inj h
        have e1 := (Prod.mk.inj h).1
        have e2 := (Prod.mk.inj h).2
        refine ⟨⟨r.take n.toNat, ?_, e1.symm⟩⟩
        rw [← e2, List.take_append_drop, List.length_take]
        have : ((min n.toNat r.length : Nat) : Int) = n := by omega
        rw [this]
      · rw [if_neg hc] at h
        simp at h
  · right
    refine ⟨h0, ?_⟩
    by_cases h1 : p = 1
    · subst h1; exact other 1 rfl (by decide) (by decide) rfl
    by_cases h2 : p = 2
    · subst h2; exact other 1 rfl (by decide) (by decide) rfl
    by_cases h3 : p = 3
    · subst h3; exact other 1 rfl (by decide) (by decide) rfl
    by_cases h4 : p = 4
    · subst h4; exact other 0 rfl (by decide) (by decide) rfl
    by_cases h5 : p = 5
    · subst h5; exact other 1 rfl (by decide) (by decide) rfl
    by_cases h6 : p = 6
    · subst h6; exact other 1 rfl (by decide) (by decide) rfl
    by_cases h7 : p = 7
    · subst h7; exact other 3 rfl (by decide) (by decide) rfl
    · have hs : PyMu17.shape p = none := by
        unfold PyMu17.shape
        rw [if_neg h0, if_neg h1, if_neg h2, if_neg h3, if_neg h4, if_neg h5, if_neg h6, if_neg h7]
      rw [hs] at h
      simp at h
theorem flat_calls {f : Nat} {p : Int} {r : List Int} {rest : List (List (List Int))} (h : PyFlat.calls PyMu17.shape f (p :: r) = some rest) :
    ∃ f' c t rest', PyFlat.call PyMu17.shape (p :: r) = some (c, t) ∧ PyFlat.calls PyMu17.shape f' t = some rest' ∧ rest = c :: rest' := by
  cases f with
  | zero => simp [PyFlat.calls] at h
  | succ f =>
    unfold PyFlat.calls at h
    cases e : PyFlat.call PyMu17.shape (p :: r) with
    | none => rw [e] at h; simp at h
    | some ct =>
      obtain ⟨c, t⟩ := ct
      rw [e] at h
      simp only [] at h
      cases e2 : PyFlat.calls PyMu17.shape f t with
      | none => rw [e2] at h; simp at h
      | some cs =>
        rw [e2] at h
        exact ⟨f, c, t, cs, rfl, e2, (Option.some.inj h).symm⟩
theorem flat_done {f : Nat} {rest : List (List (List Int))} (h : PyFlat.calls PyMu17.shape f [] = some rest) : rest = [] := by
  cases f <;> (unfold PyFlat.calls at h; exact (Option.some.inj h).symm)
/-- what stands between two turns of answers' loop -/
structure Turn (l : List Int) (i : Nat) (o : Mu17.Abs) (found : List Int) : Prop where
  le : i ≤ l.length
  ex : ∃ f rest, PyFlat.calls PyMu17.shape f (l.drop i) = some rest ∧ (∀ c ∈ rest, Mu17Neutral.asked1 c = true) ∧
    PyMu17.answers l = found ++ PyFlat.told (PyFlat.played Mu17Neutral.step o rest)
theorem turn_start {l : List Int} (h : PyMu17.answers_asked l = true) : Turn l 0 none [] ∧ (PyMu17.answers l).length ≤ 10000000 := by
  unfold PyMu17.answers_asked at h
  cases e : PyFlat.calls PyMu17.shape l.length l with
  | none => rw [e] at h; simp at h
  | some raw =>
    rw [e] at h
    simp only [Bool.and_eq_true] at h
    obtain ⟨⟨⟨⟨h1, h2⟩, h3⟩, h4⟩, h5⟩ := h
    have hm : raw.map PyMu17.whole = raw := by
      have : PyMu17.whole = id := funext whole_self
      rw [this, List.map_id]
    rw [hm] at h4
    refine ⟨⟨Nat.zero_le _, l.length, raw, by rw [List.drop_zero]; exact e, ?_, ?_⟩, ?_⟩
    · unfold Mu17Neutral.asked at h4
      simp only [Bool.and_eq_true] at h4
      exact List.all_eq_true.mp h4.2.2
    · unfold PyMu17.answers PyMu17.calls
      rw [e]
      simp only [hm, List.nil_append]
      rfl
    · unfold PyFlat.short at h5
      exact of_decide_eq_true h5
theorem turn_end {l : List Int} {o : Mu17.Abs} {found : List Int} (t : Turn l l.length o found) : found = PyMu17.answers l := by
  obtain ⟨f, rest, h1, _, h3⟩ := t.ex
  rw [List.drop_length] at h1
  rw [flat_done h1] at h3
  rw [h3]
  show found = found ++ []
  rw [List.append_nil]
theorem told_cons (a : List Int) (r : List (List Int)) : PyFlat.told (a :: r) = ((a.length : Int) :: a) ++ PyFlat.told r := by
  unfold PyFlat.told
  rw [List.flatMap_cons]
theorem drop_ix {l : List Int} {i : Nat} {p : Int} {r : List Int} (h : l.drop i = p :: r) : l[i]? = some p ∧ l.drop (i + 1) = r := by
  constructor
  · have : (l.drop i)[0]? = some p := by rw [h]; rfl
    rw [List.getElem?_drop] at this
    simpa using this
  · rw [← List.drop_drop, h]; rfl
theorem drop_app {l : List Int} {i : Nat} {a t : List Int} (h : l.drop i = a ++ t) (hi : i ≤ l.length) : (l.drop i).take a.length = a ∧ l.drop (i + a.length) = t ∧ i + a.length ≤ l.length := by
  refine ⟨by rw [h, List.take_left], by rw [← List.drop_drop, h, List.drop_left], ?_⟩
  have := congrArg List.length h
  rw [List.length_drop, List.length_append] at this
  omega
/-- one turn: a read -/
theorem turn_read {l : List Int} {i : Nat} {o : Mu17.Abs} {found : List Int} (t : Turn l i o found) (hi : l[i]? = some 0) :
    ∃ text : List Int, l[i + 1]? = some (text.length : Int) ∧ (l.drop (i + 1 + 1)).take text.length = text ∧ i + 1 + 1 + text.length ≤ l.length ∧ Mu17Neutral.text text = true ∧
      Turn l (i + 1 + 1 + text.length) (Mu17.step o (.read (Mu17Neutral.nats text))).1 (found ++ [((Mu17.step o (.read (Mu17Neutral.nats text))).2.length : Int)] ++ (Mu17.step o (.read (Mu17Neutral.nats text))).2) := by
  obtain ⟨f, rest, h1, h2, h3⟩ := t.ex
  obtain ⟨hlt, hie⟩ := List.getElem?_eq_some_iff.mp hi
  have hd : l.drop i = 0 :: l.drop (i + 1) := by rw [← hie, List.drop_eq_getElem_cons hlt]
  rw [hd] at h1
  obtain ⟨f', c, tt, rest', e1, e2, e3⟩ := flat_calls h1
  rcases flat_call e1 with ⟨_, ⟨text, er, ec⟩⟩ | ⟨h0, _⟩
  · have hi1 := drop_ix er
    have hlen : i + 1 + 1 ≤ l.length := by
      have := (List.getElem?_eq_some_iff.mp hi1.1).1
      omega
    have ha := drop_app hi1.2 hlen
    subst e3
    have hq := h2 c (by simp)
    subst ec
    refine ⟨text, hi1.1, ha.1, ha.2.2, hq, ⟨ha.2.2, f', rest', ?_, fun d hd => h2 d (by simp [hd]), ?_⟩⟩
    · rw [ha.2.1]; exact e2
    · rw [h3]
      rw [show PyFlat.played Mu17Neutral.step o ([[0], text] :: rest') = (Mu17Neutral.step o [[0], text]).2 :: PyFlat.played Mu17Neutral.step (Mu17Neutral.step o [[0], text]).1 rest' from rfl]
      rw [told_cons]
      show found ++ (((Mu17.step o (.read (Mu17Neutral.nats text))).2.length : Int) :: (Mu17.step o (.read (Mu17Neutral.nats text))).2 ++ _) = _
      simp only [List.append_assoc]
      rfl
  · exact absurd rfl h0
/-- what a call that isn't read is -/
def callOf (p : Int) (args : List Int) : Mu17.Call :=
  if p = 1 then .do_ (args.getD 0 0).toNat else if p = 2 then .wait (args.getD 0 0).toNat else if p = 3 then .pan (args.getD 0 0).toNat else if p = 4 then .sums
  else if p = 5 then .best (args.getD 0 0).toNat else if p = 6 then .sun (args.getD 0 0).toNat else .pour (args.getD 0 0).toNat (args.getD 1 0).toNat (args.getD 2 0).toNat
structure ArgsOk (p : Int) (args : List Int) : Prop where
  p1 : 1 ≤ p
  p7 : p ≤ 7
  len : args.length = nums p
  pos : ∀ x ∈ args, 0 ≤ x ∧ x ≤ 20000
theorem args_ok {p : Int} {args : List Int} (h1 : 1 ≤ p) (h7 : p ≤ 7) (hl : args.length = nums p) (ha : Mu17Neutral.asked1 [p :: args] = true) (o : Mu17.Abs) :
    ArgsOk p args ∧ Mu17Neutral.step o [p :: args] = Mu17.step o (callOf p args) := by
  have tw : ∀ z, Mu17Neutral.twenty z = true → 0 ≤ z ∧ z ≤ 20000 := by
    intro z hz
    unfold Mu17Neutral.twenty NeutralIO.within at hz
    simp at hz; omega
  have wi : ∀ z hi, hi ≤ 20000 → NeutralIO.within z 0 hi = true → 0 ≤ z ∧ z ≤ 20000 := by
    intro z hi hh hz
    unfold NeutralIO.within at hz
    simp at hz; omega
  have one : ∀ q : Int, p = q → nums q = 1 → ∃ x, args = [x] := by
    intro q hq hn
    subst hq
    rw [hn] at hl
    match args, hl with
    | [x], _ => exact ⟨x, rfl⟩
  have hp : p = 1 ∨ p = 2 ∨ p = 3 ∨ p = 4 ∨ p = 5 ∨ p = 6 ∨ p = 7 := by omega
  rcases hp with e | e | e | e | e | e | e
  · obtain ⟨x, rfl⟩ := one 1 e rfl
    subst e
    exact ⟨⟨h1, h7, hl, fun y hy => by cases List.mem_singleton.mp hy; exact tw x ha⟩, rfl⟩
  · obtain ⟨x, rfl⟩ := one 2 e rfl
    subst e
    exact ⟨⟨h1, h7, hl, fun y hy => by cases List.mem_singleton.mp hy; exact wi x 200 (by decide) ha⟩, rfl⟩
  · obtain ⟨x, rfl⟩ := one 3 e rfl
    subst e
    exact ⟨⟨h1, h7, hl, fun y hy => by cases List.mem_singleton.mp hy; exact tw x ha⟩, rfl⟩
  · subst e
    have : args = [] := List.length_eq_zero_iff.mp hl
    subst this
    exact ⟨⟨h1, h7, hl, fun y hy => by cases hy⟩, rfl⟩
  · obtain ⟨x, rfl⟩ := one 5 e rfl
    subst e
    exact ⟨⟨h1, h7, hl, fun y hy => by cases List.mem_singleton.mp hy; exact tw x ha⟩, rfl⟩
  · obtain ⟨x, rfl⟩ := one 6 e rfl
    subst e
    exact ⟨⟨h1, h7, hl, fun y hy => by cases List.mem_singleton.mp hy; exact tw x ha⟩, rfl⟩
  · subst e
    have h3 : args.length = 3 := hl
    match args, h3 with
    | [x, y, z], _ =>
      have ha' : (Mu17Neutral.twenty x && (NeutralIO.within y 0 2000 && NeutralIO.within z 0 20000)) = true := ha
      simp only [Bool.and_eq_true] at ha'
      refine ⟨⟨h1, h7, hl, fun v hv => ?_⟩, rfl⟩
      simp at hv
      rcases hv with rfl | rfl | rfl
      · exact tw _ ha'.1
      · exact wi _ 2000 (by decide) ha'.2.1
      · exact wi _ 20000 (by decide) ha'.2.2
/-- one turn: any other call -/
theorem turn_other {l : List Int} {i : Nat} {o : Mu17.Abs} {found : List Int} (t : Turn l i o found) {p : Int} (hi : l[i]? = some p) (h0 : p ≠ 0) :
    ∃ args : List Int, (l.drop (i + 1)).take args.length = args ∧ i + 1 + args.length ≤ l.length ∧ ArgsOk p args ∧
      Turn l (i + 1 + args.length) (Mu17.step o (callOf p args)).1 (found ++ [((Mu17.step o (callOf p args)).2.length : Int)] ++ (Mu17.step o (callOf p args)).2) := by
  obtain ⟨f, rest, h1, h2, h3⟩ := t.ex
  obtain ⟨hlt, hie⟩ := List.getElem?_eq_some_iff.mp hi
  have hd : l.drop i = p :: l.drop (i + 1) := by rw [← hie, List.drop_eq_getElem_cons hlt]
  rw [hd] at h1
  obtain ⟨f', c, tt, rest', e1, e2, e3⟩ := flat_calls h1
  rcases flat_call e1 with ⟨hz, _⟩ | ⟨_, ⟨args, er, ec, en, p1, p7⟩⟩
  · exact absurd hz h0
  · have ha := drop_app er (by omega)
    subst e3
    have hq := h2 c (by simp)
    subst ec
    obtain ⟨ok, es⟩ := args_ok p1 p7 en hq o
    refine ⟨args, ha.1, ha.2.2, ok, ⟨ha.2.2, f', rest', ?_, fun d hd => h2 d (by simp [hd]), ?_⟩⟩
    · rw [ha.2.1]; exact e2
    · rw [h3]
      rw [show PyFlat.played Mu17Neutral.step o ([p :: args] :: rest') = (Mu17Neutral.step o [p :: args]).2 :: PyFlat.played Mu17Neutral.step (Mu17Neutral.step o [p :: args]).1 rest' from rfl]
      rw [told_cons, es]
      simp only [List.append_assoc]
      rfl
theorem turn_len {l : List Int} {i : Nat} {o : Mu17.Abs} {found : List Int} (t : Turn l i o found) : found.length ≤ (PyMu17.answers l).length := by
  obtain ⟨f, rest, _, _, h3⟩ := t.ex
  rw [h3, List.length_append]
  omega
end Sal
namespace Sal
open PySem PySem.Spec PyProof.Rows L2
open PySem.W (Codec)
/-! ### the text by places (printed by gen.py) -/
def top (i : Nat) : Stmt := PySem.Challenge.pw_saltpans_s01_answers.main.body.getD i (.Pass ⟨0, 0, 0, 0⟩)
abbrev s_melted : Stmt := top 6
abbrev s_share : Stmt := top 7
abbrev s_pInit : Stmt := inClass (top 8) 0
abbrev s_copied : Stmt := inClass (top 8) 1
abbrev s_deeds : Stmt := inClass (top 8) 2
abbrev s_room : Stmt := inClass (top 8) 3
abbrev s_fill : Stmt := inClass (top 8) 4
abbrev s_rake : Stmt := inClass (top 8) 5
abbrev s_sluice : Stmt := inClass (top 8) 6
abbrev s_rain : Stmt := inClass (top 8) 7
abbrev s_weather : Stmt := inClass (top 8) 8
abbrev s_day : Stmt := inClass (top 8) 9
abbrev s_pPour : Stmt := inClass (top 8) 10
abbrev s_told : Stmt := inClass (top 8) 11
abbrev s_sums : Stmt := inClass (top 8) 12
abbrev s_fInit : Stmt := inClass (top 11) 0
abbrev s_look : Stmt := inClass (top 11) 1
abbrev s_keep : Stmt := inClass (top 11) 2
abbrev s_best : Stmt := top 12
abbrev s_sunny : Stmt := top 13
abbrev s_xInit : Stmt := inClass (top 25) 0
abbrev s_lInit : Stmt := inClass (top 26) 0
abbrev s_lines : Stmt := top 27
abbrev s_words : Stmt := top 28
abbrev s_isName : Stmt := top 29
abbrev s_isNumber : Stmt := top 30
abbrev s_worth : Stmt := top 31
abbrev s_asTold : Stmt := top 32
abbrev s_tooMany : Stmt := top 33
abbrev s_inBounds : Stmt := top 34
abbrev s_lookLine : Stmt := top 35
abbrev s_takeLine : Stmt := top 36
abbrev s_read : Stmt := top 37
abbrev s_standing : Stmt := top 50
abbrev s_do_ : Stmt := top 51
abbrev s_wait : Stmt := top 52
abbrev s_bestTold : Stmt := top 53
abbrev s_sun : Stmt := top 54
abbrev s_pour : Stmt := top 55
abbrev s_ofPan : Stmt := top 56
abbrev s_ofWorks : Stmt := top 57
abbrev s_hInit : Stmt := inClass (top 58) 0
abbrev s_hRead : Stmt := inClass (top 58) 1
abbrev s_hAnswer : Stmt := inClass (top 58) 2
abbrev s_answers : Stmt := top 59
/-- where what the top has written stands -/
structure Ad where
  cPans : Addr
  cFinder : Addr
  cPlan : Addr
  cHolder : Addr
  cFault : Addr
  aPAN : Addr
  aDAY : Addr
  aSEA : Addr
  aNUMBERS : Addr
  f_melted : Addr
  d_melted : FuncData
  f_share : Addr
  d_share : FuncData
  f_pInit : Addr
  d_pInit : FuncData
  f_copied : Addr
  d_copied : FuncData
  f_deeds : Addr
  d_deeds : FuncData
  f_room : Addr
  d_room : FuncData
  f_fill : Addr
  d_fill : FuncData
  f_rake : Addr
  d_rake : FuncData
  f_sluice : Addr
  d_sluice : FuncData
  f_rain : Addr
  d_rain : FuncData
  f_weather : Addr
  d_weather : FuncData
  f_day : Addr
  d_day : FuncData
  f_pPour : Addr
  d_pPour : FuncData
  f_told : Addr
  d_told : FuncData
  f_sums : Addr
  d_sums : FuncData
  f_fInit : Addr
  d_fInit : FuncData
  f_look : Addr
  d_look : FuncData
  f_keep : Addr
  d_keep : FuncData
  f_best : Addr
  d_best : FuncData
  f_sunny : Addr
  d_sunny : FuncData
  f_xInit : Addr
  d_xInit : FuncData
  f_lInit : Addr
  d_lInit : FuncData
  f_lines : Addr
  d_lines : FuncData
  f_words : Addr
  d_words : FuncData
  f_isName : Addr
  d_isName : FuncData
  f_isNumber : Addr
  d_isNumber : FuncData
  f_worth : Addr
  d_worth : FuncData
  f_asTold : Addr
  d_asTold : FuncData
  f_tooMany : Addr
  d_tooMany : FuncData
  f_inBounds : Addr
  d_inBounds : FuncData
  f_lookLine : Addr
  d_lookLine : FuncData
  f_takeLine : Addr
  d_takeLine : FuncData
  f_read : Addr
  d_read : FuncData
  f_standing : Addr
  d_standing : FuncData
  f_do_ : Addr
  d_do_ : FuncData
  f_wait : Addr
  d_wait : FuncData
  f_bestTold : Addr
  d_bestTold : FuncData
  f_sun : Addr
  d_sun : FuncData
  f_pour : Addr
  d_pour : FuncData
  f_ofPan : Addr
  d_ofPan : FuncData
  f_ofWorks : Addr
  d_ofWorks : FuncData
  f_hInit : Addr
  d_hInit : FuncData
  f_hRead : Addr
  d_hRead : FuncData
  f_hAnswer : Addr
  d_hAnswer : FuncData
  f_answers : Addr
  d_answers : FuncData
def KL (K : PySem.W.Frag) (a : Addr) (xs : List V) : Prop := ∃ (o : Obj) (its : Array Value) (n : Nat), K.lookup a = some o ∧ o.cls = .type "list" ∧ o.dict = none ∧ o.data = .seq its n ∧ its.size ≤ sizeLine ∧ Vals xs its.toList
def KT (K : PySem.W.Frag) (a : Addr) (xs : List V) : Prop := ∃ (o : Obj) (its : Array Value) (n : Nat), K.lookup a = some o ∧ o.cls = .type "tuple" ∧ o.data = .seq its n ∧ its.size ≤ sizeLine ∧ Vals xs its.toList
/-- what the top has written -/
structure Txt (K : PySem.W.Frag) (mg : Str → Option Value) (A : Ad) : Prop where
  clPans : Cls K A.cPans
  gPans : mg "Pans" = some (.ref A.cPans)
  mkPans : Mk K A.cPans A.f_pInit
  nPans_plan : NoAttr K A.cPans "plan"
  nPans_water : NoAttr K A.cPans "water"
  nPans_salt : NoAttr K A.cPans "salt"
  nPans_store : NoAttr K A.cPans "store"
  nPans_away : NoAttr K A.cPans "away"
  nPans_drawn : NoAttr K A.cPans "drawn"
  nPans_came : NoAttr K A.cPans "came"
  nPans_gone_by : NoAttr K A.cPans "gone_by"
  clFinder : Cls K A.cFinder
  gFinder : mg "Finder" = some (.ref A.cFinder)
  mkFinder : Mk K A.cFinder A.f_fInit
  nFinder_store : NoAttr K A.cFinder "store"
  nFinder_many : NoAttr K A.cFinder "many"
  nFinder_row : NoAttr K A.cFinder "row"
  clPlan : Cls K A.cPlan
  gPlan : mg "Plan" = some (.ref A.cPlan)
  mkPlan : Mk K A.cPlan A.f_lInit
  nPlan_pans : NoAttr K A.cPlan "pans"
  nPlan_days : NoAttr K A.cPlan "days"
  nPlan_sea : NoAttr K A.cPlan "sea"
  clHolder : Cls K A.cHolder
  gHolder : mg "Holder" = some (.ref A.cHolder)
  mkHolder : Mk K A.cHolder A.f_hInit
  nHolder_pans : NoAttr K A.cHolder "pans"
  gFault : mg "Fault" = some (.ref A.cFault)
  oFault : OexC K A.cFault
  xFault : XfC K A.cFault
  nFault_number : PySem.W.findIn K (.ref A.cFault) "number" = some none
  iFault : PySem.W.findIn K (.ref A.cFault) "__init__" = some (some (.ref A.f_xInit))
  tFault : PySem.W.typeIn K (.ref A.f_xInit) = some (.type "function")
  eFault : PySem.W.exmOne K (.ref A.cFault) (.ref A.cFault) = some true
  F_melted : Fun K "melted" "melted" s_melted A.f_melted A.d_melted
  g_melted : mg "melted" = some (.ref A.f_melted)
  F_share : Fun K "share" "share" s_share A.f_share A.d_share
  g_share : mg "share" = some (.ref A.f_share)
  F_pInit : Fun K "__init__" "Pans.__init__" s_pInit A.f_pInit A.d_pInit
  F_copied : Fun K "copied" "Pans.copied" s_copied A.f_copied A.d_copied
  m_copied : Meth K A.cPans "copied" A.f_copied
  F_deeds : Fun K "deeds" "Pans.deeds" s_deeds A.f_deeds A.d_deeds
  m_deeds : Meth K A.cPans "deeds" A.f_deeds
  F_room : Fun K "room" "Pans.room" s_room A.f_room A.d_room
  m_room : Meth K A.cPans "room" A.f_room
  F_fill : Fun K "fill" "Pans.fill" s_fill A.f_fill A.d_fill
  m_fill : Meth K A.cPans "fill" A.f_fill
  F_rake : Fun K "rake" "Pans.rake" s_rake A.f_rake A.d_rake
  m_rake : Meth K A.cPans "rake" A.f_rake
  F_sluice : Fun K "open_sluice" "Pans.open_sluice" s_sluice A.f_sluice A.d_sluice
  m_sluice : Meth K A.cPans "open_sluice" A.f_sluice
  F_rain : Fun K "rain" "Pans.rain" s_rain A.f_rain A.d_rain
  m_rain : Meth K A.cPans "rain" A.f_rain
  F_weather : Fun K "weather" "Pans.weather" s_weather A.f_weather A.d_weather
  m_weather : Meth K A.cPans "weather" A.f_weather
  F_day : Fun K "day" "Pans.day" s_day A.f_day A.d_day
  m_day : Meth K A.cPans "day" A.f_day
  F_pPour : Fun K "pour" "Pans.pour" s_pPour A.f_pPour A.d_pPour
  m_pPour : Meth K A.cPans "pour" A.f_pPour
  F_told : Fun K "told" "Pans.told" s_told A.f_told A.d_told
  m_told : Meth K A.cPans "told" A.f_told
  F_sums : Fun K "sums" "Pans.sums" s_sums A.f_sums A.d_sums
  m_sums : Meth K A.cPans "sums" A.f_sums
  F_fInit : Fun K "__init__" "Finder.__init__" s_fInit A.f_fInit A.d_fInit
  F_look : Fun K "look" "Finder.look" s_look A.f_look A.d_look
  m_look : Meth K A.cFinder "look" A.f_look
  F_keep : Fun K "keep" "Finder.keep" s_keep A.f_keep A.d_keep
  m_keep : Meth K A.cFinder "keep" A.f_keep
  F_best : Fun K "best" "best" s_best A.f_best A.d_best
  g_best : mg "best" = some (.ref A.f_best)
  F_sunny : Fun K "days_of_sun" "days_of_sun" s_sunny A.f_sunny A.d_sunny
  g_sunny : mg "days_of_sun" = some (.ref A.f_sunny)
  F_xInit : Fun K "__init__" "Fault.__init__" s_xInit A.f_xInit A.d_xInit
  F_lInit : Fun K "__init__" "Plan.__init__" s_lInit A.f_lInit A.d_lInit
  F_lines : Fun K "lines_of" "lines_of" s_lines A.f_lines A.d_lines
  g_lines : mg "lines_of" = some (.ref A.f_lines)
  F_words : Fun K "words_of" "words_of" s_words A.f_words A.d_words
  g_words : mg "words_of" = some (.ref A.f_words)
  F_isName : Fun K "is_name" "is_name" s_isName A.f_isName A.d_isName
  g_isName : mg "is_name" = some (.ref A.f_isName)
  F_isNumber : Fun K "is_number" "is_number" s_isNumber A.f_isNumber A.d_isNumber
  g_isNumber : mg "is_number" = some (.ref A.f_isNumber)
  F_worth : Fun K "worth_of" "worth_of" s_worth A.f_worth A.d_worth
  g_worth : mg "worth_of" = some (.ref A.f_worth)
  F_asTold : Fun K "is_as_told" "is_as_told" s_asTold A.f_asTold A.d_asTold
  g_asTold : mg "is_as_told" = some (.ref A.f_asTold)
  F_tooMany : Fun K "are_too_many" "are_too_many" s_tooMany A.f_tooMany A.d_tooMany
  g_tooMany : mg "are_too_many" = some (.ref A.f_tooMany)
  F_inBounds : Fun K "are_in_bounds" "are_in_bounds" s_inBounds A.f_inBounds A.d_inBounds
  g_inBounds : mg "are_in_bounds" = some (.ref A.f_inBounds)
  F_lookLine : Fun K "look_at_line" "look_at_line" s_lookLine A.f_lookLine A.d_lookLine
  g_lookLine : mg "look_at_line" = some (.ref A.f_lookLine)
  F_takeLine : Fun K "take_line" "take_line" s_takeLine A.f_takeLine A.d_takeLine
  g_takeLine : mg "take_line" = some (.ref A.f_takeLine)
  F_read : Fun K "read" "read" s_read A.f_read A.d_read
  g_read : mg "read" = some (.ref A.f_read)
  F_standing : Fun K "standing" "standing" s_standing A.f_standing A.d_standing
  g_standing : mg "standing" = some (.ref A.f_standing)
  F_do_ : Fun K "do" "do" s_do_ A.f_do_ A.d_do_
  g_do_ : mg "do" = some (.ref A.f_do_)
  F_wait : Fun K "wait" "wait" s_wait A.f_wait A.d_wait
  g_wait : mg "wait" = some (.ref A.f_wait)
  F_bestTold : Fun K "best_told" "best_told" s_bestTold A.f_bestTold A.d_bestTold
  g_bestTold : mg "best_told" = some (.ref A.f_bestTold)
  F_sun : Fun K "sun" "sun" s_sun A.f_sun A.d_sun
  g_sun : mg "sun" = some (.ref A.f_sun)
  F_pour : Fun K "pour" "pour" s_pour A.f_pour A.d_pour
  g_pour : mg "pour" = some (.ref A.f_pour)
  F_ofPan : Fun K "of_pan" "of_pan" s_ofPan A.f_ofPan A.d_ofPan
  g_ofPan : mg "of_pan" = some (.ref A.f_ofPan)
  F_ofWorks : Fun K "of_works" "of_works" s_ofWorks A.f_ofWorks A.d_ofWorks
  g_ofWorks : mg "of_works" = some (.ref A.f_ofWorks)
  F_hInit : Fun K "__init__" "Holder.__init__" s_hInit A.f_hInit A.d_hInit
  F_hRead : Fun K "read" "Holder.read" s_hRead A.f_hRead A.d_hRead
  m_hRead : Meth K A.cHolder "read" A.f_hRead
  F_hAnswer : Fun K "answer" "Holder.answer" s_hAnswer A.f_hAnswer A.d_hAnswer
  m_hAnswer : Meth K A.cHolder "answer" A.f_hAnswer
  F_answers : Fun K "answers" "answers" s_answers A.f_answers A.d_answers
  g_answers : mg "answers" = some (.ref A.f_answers)
  g_read_texts : mg "read_texts" = some (.ref A.f_read)
  kREST : ∃ tk, mg "REST" = some (.int 0 tk)
  kFILL : ∃ tk, mg "FILL" = some (.int 1 tk)
  kRAKE : ∃ tk, mg "RAKE" = some (.int 2 tk)
  kFIRST_SLUICE : ∃ tk, mg "FIRST_SLUICE" = some (.int 3 tk)
  kWATER_FOR_SALT : ∃ tk, mg "WATER_FOR_SALT" = some (.int 3 tk)
  kMOST_DAYS_looking : ∃ tk, mg "MOST_DAYS_looking" = some (.int 100 tk)
  kLINE_END : ∃ tk, mg "LINE_END" = some (.int 10 tk)
  kBLANK : ∃ tk, mg "BLANK" = some (.int 32 tk)
  kNOTE : ∃ tk, mg "NOTE" = some (.int 35 tk)
  kMOST_PANS : ∃ tk, mg "MOST_PANS" = some (.int 3 tk)
  kMOST_DAYS_texts : ∃ tk, mg "MOST_DAYS_texts" = some (.int 12 tk)
  kMOST_LETTERS : ∃ tk, mg "MOST_LETTERS" = some (.int 12 tk)
  kMOST_DIGITS : ∃ tk, mg "MOST_DIGITS" = some (.int 4 tk)
  kNOT_SO : ∃ tk, mg "NOT_SO" = some (.int (-1) tk)
  kNO_PAN : ∃ tk, mg "NO_PAN" = some (.int (-2) tk)
  kFAULT : ∃ tk, mg "FAULT" = some (.int (-2) tk)
  kNOT_GONE : ∃ tk, mg "NOT_GONE" = some (.int (-6) tk)
  kNO_WORKS : ∃ tk, mg "NO_WORKS" = some (.int (-9) tk)
  kREAD : ∃ tk, mg "READ" = some (.int 0 tk)
  kMOST_WAIT : ∃ tk, mg "MOST_WAIT" = some (.int 100 tk)
  kMOST_BEST : ∃ tk, mg "MOST_BEST" = some (.int 5 tk)
  kMOST_SALT : ∃ tk, mg "MOST_SALT" = some (.int 9999 tk)
  gPAN : mg "PAN" = some (.ref A.aPAN)
  lPAN : KL K A.aPAN [.int 112, .int 97, .int 110]
  gDAY : mg "DAY" = some (.ref A.aDAY)
  lDAY : KL K A.aDAY [.int 100, .int 97, .int 121]
  gSEA : mg "SEA" = some (.ref A.aSEA)
  lSEA : KL K A.aSEA [.int 115, .int 101, .int 97]
  gNUMBERS : mg "NUMBERS" = some (.ref A.aNUMBERS)
  lNUMBERS : KT K A.aNUMBERS [.int 0, .int 1, .int 1, .int 1, .int 0, .int 1, .int 1, .int 3]
  bmin : mg "min" = none
  blen : mg "len" = none
  brange : mg "range" = none
  blist : mg "list" = none
  bsum : mg "sum" = none
  ball : mg "all" = none
  benumerate : mg "enumerate" = none
theorem sc_melted : FnScope ["water", "salt"] ["water", "salt"] (defScope s_melted) := ⟨rfl, rfl, rfl, by decide +kernel, rfl, by decide +kernel, by decide +kernel⟩
theorem sc_share : FnScope ["water", "salt", "goes"] ["water", "salt", "goes"] (defScope s_share) := ⟨rfl, rfl, rfl, by decide +kernel, rfl, by decide +kernel, by decide +kernel⟩
theorem sc_pInit : FnScope ["self", "plan"] ["self", "plan"] (defScope s_pInit) := ⟨rfl, rfl, rfl, by decide +kernel, rfl, by decide +kernel, by decide +kernel⟩
theorem sc_copied : FnScope ["self", "found"] ["self"] (defScope s_copied) := ⟨rfl, rfl, rfl, by decide +kernel, rfl, by decide +kernel, by decide +kernel⟩
theorem sc_deeds : FnScope ["self"] ["self"] (defScope s_deeds) := ⟨rfl, rfl, rfl, by decide +kernel, rfl, by decide +kernel, by decide +kernel⟩
theorem sc_room : FnScope ["self", "i"] ["self", "i"] (defScope s_room) := ⟨rfl, rfl, rfl, by decide +kernel, rfl, by decide +kernel, by decide +kernel⟩
theorem sc_fill : FnScope ["self", "more", "salt"] ["self"] (defScope s_fill) := ⟨rfl, rfl, rfl, by decide +kernel, rfl, by decide +kernel, by decide +kernel⟩
theorem sc_rake : FnScope ["self", "i", "kept"] ["self"] (defScope s_rake) := ⟨rfl, rfl, rfl, by decide +kernel, rfl, by decide +kernel, by decide +kernel⟩
theorem sc_sluice : FnScope ["self", "i", "last", "goes", "salt"] ["self", "i"] (defScope s_sluice) := ⟨rfl, rfl, rfl, by decide +kernel, rfl, by decide +kernel, by decide +kernel⟩
theorem sc_rain : FnScope ["self", "i", "much", "over", "salt"] ["self", "i", "much"] (defScope s_rain) := ⟨rfl, rfl, rfl, by decide +kernel, rfl, by decide +kernel, by decide +kernel⟩
theorem sc_weather : FnScope ["self", "sun", "rain", "i", "area"] ["self"] (defScope s_weather) := ⟨rfl, rfl, rfl, by decide +kernel, rfl, by decide +kernel, by decide +kernel⟩
theorem sc_day : FnScope ["self", "deed"] ["self", "deed"] (defScope s_day) := ⟨rfl, rfl, rfl, by decide +kernel, rfl, by decide +kernel, by decide +kernel⟩
theorem sc_pPour : FnScope ["self", "i", "water", "salt"] ["self", "i", "water", "salt"] (defScope s_pPour) := ⟨rfl, rfl, rfl, by decide +kernel, rfl, by decide +kernel, by decide +kernel⟩
theorem sc_told : FnScope ["self", "i", "kept"] ["self", "i"] (defScope s_told) := ⟨rfl, rfl, rfl, by decide +kernel, rfl, by decide +kernel, by decide +kernel⟩
theorem sc_sums : FnScope ["self"] ["self"] (defScope s_sums) := ⟨rfl, rfl, rfl, by decide +kernel, rfl, by decide +kernel, by decide +kernel⟩
theorem sc_fInit : FnScope ["self"] ["self"] (defScope s_fInit) := ⟨rfl, rfl, rfl, by decide +kernel, rfl, by decide +kernel, by decide +kernel⟩
theorem sc_look : FnScope ["self", "pans", "deeds", "left", "deed", "later"] ["self", "pans", "deeds", "left"] (defScope s_look) := ⟨rfl, rfl, rfl, by decide +kernel, rfl, by decide +kernel, by decide +kernel⟩
theorem sc_keep : FnScope ["self", "store", "deeds", "many", "deed"] ["self", "store", "deeds"] (defScope s_keep) := ⟨rfl, rfl, rfl, by decide +kernel, rfl, by decide +kernel, by decide +kernel⟩
theorem sc_best : FnScope ["pans", "n", "finder"] ["pans", "n"] (defScope s_best) := ⟨rfl, rfl, rfl, by decide +kernel, rfl, by decide +kernel, by decide +kernel⟩
theorem sc_sunny : FnScope ["pans", "i", "later", "n"] ["pans", "i"] (defScope s_sunny) := ⟨rfl, rfl, rfl, by decide +kernel, rfl, by decide +kernel, by decide +kernel⟩
theorem sc_xInit : FnScope ["self", "number"] ["self", "number"] (defScope s_xInit) := ⟨rfl, rfl, rfl, by decide +kernel, rfl, by decide +kernel, by decide +kernel⟩
theorem sc_lInit : FnScope ["self"] ["self"] (defScope s_lInit) := ⟨rfl, rfl, rfl, by decide +kernel, rfl, by decide +kernel, by decide +kernel⟩
theorem sc_lines : FnScope ["text", "found", "byte"] ["text"] (defScope s_lines) := ⟨rfl, rfl, rfl, by decide +kernel, rfl, by decide +kernel, by decide +kernel⟩
theorem sc_words : FnScope ["line", "found", "byte", "word"] ["line"] (defScope s_words) := ⟨rfl, rfl, rfl, by decide +kernel, rfl, by decide +kernel, by decide +kernel⟩
theorem sc_isName : FnScope ["word", "byte"] ["word"] (defScope s_isName) := ⟨rfl, rfl, rfl, by decide +kernel, rfl, by decide +kernel, by decide +kernel⟩
theorem sc_isNumber : FnScope ["word", "byte"] ["word"] (defScope s_isNumber) := ⟨rfl, rfl, rfl, by decide +kernel, rfl, by decide +kernel, by decide +kernel⟩
theorem sc_worth : FnScope ["word", "found", "byte"] ["word"] (defScope s_worth) := ⟨rfl, rfl, rfl, by decide +kernel, rfl, by decide +kernel, by decide +kernel⟩
theorem sc_asTold : FnScope ["words"] ["words"] (defScope s_asTold) := ⟨rfl, rfl, rfl, by decide +kernel, rfl, by decide +kernel, by decide +kernel⟩
theorem sc_tooMany : FnScope ["plan", "word"] ["plan", "word"] (defScope s_tooMany) := ⟨rfl, rfl, rfl, by decide +kernel, rfl, by decide +kernel, by decide +kernel⟩
theorem sc_inBounds : FnScope ["word", "numbers"] ["word", "numbers"] (defScope s_inBounds) := ⟨rfl, rfl, rfl, by decide +kernel, rfl, by decide +kernel, by decide +kernel⟩
theorem sc_lookLine : FnScope ["plan", "words", "word"] ["plan", "words"] (defScope s_lookLine) := ⟨rfl, rfl, rfl, by decide +kernel, rfl, by decide +kernel, by decide +kernel⟩
theorem sc_takeLine : FnScope ["plan", "words", "numbers", "word"] ["plan", "words"] (defScope s_takeLine) := ⟨rfl, rfl, rfl, by decide +kernel, rfl, by decide +kernel, by decide +kernel⟩
theorem sc_read : FnScope ["text", "plan", "number", "line", "words", "fault"] ["text"] (defScope s_read) := ⟨rfl, rfl, rfl, by decide +kernel, rfl, by decide +kernel, by decide +kernel⟩
theorem sc_standing : FnScope ["pans"] ["pans"] (defScope s_standing) := ⟨rfl, rfl, rfl, by decide +kernel, rfl, by decide +kernel, by decide +kernel⟩
theorem sc_do_ : FnScope ["pans", "d"] ["pans", "d"] (defScope s_do_) := ⟨rfl, rfl, rfl, by decide +kernel, rfl, by decide +kernel, by decide +kernel⟩
theorem sc_wait : FnScope ["pans", "n", "turn"] ["pans", "n"] (defScope s_wait) := ⟨rfl, rfl, rfl, by decide +kernel, rfl, by decide +kernel, by decide +kernel⟩
theorem sc_bestTold : FnScope ["pans", "n"] ["pans", "n"] (defScope s_bestTold) := ⟨rfl, rfl, rfl, by decide +kernel, rfl, by decide +kernel, by decide +kernel⟩
theorem sc_sun : FnScope ["pans", "i", "found"] ["pans", "i"] (defScope s_sun) := ⟨rfl, rfl, rfl, by decide +kernel, rfl, by decide +kernel, by decide +kernel⟩
theorem sc_pour : FnScope ["pans", "i", "w", "s"] ["pans", "i", "w", "s"] (defScope s_pour) := ⟨rfl, rfl, rfl, by decide +kernel, rfl, by decide +kernel, by decide +kernel⟩
theorem sc_ofPan : FnScope ["pans", "number", "words"] ["pans", "number", "words"] (defScope s_ofPan) := ⟨rfl, rfl, rfl, by decide +kernel, rfl, by decide +kernel, by decide +kernel⟩
theorem sc_ofWorks : FnScope ["pans", "number", "words"] ["pans", "number", "words"] (defScope s_ofWorks) := ⟨rfl, rfl, rfl, by decide +kernel, rfl, by decide +kernel, by decide +kernel⟩
theorem sc_hInit : FnScope ["self"] ["self"] (defScope s_hInit) := ⟨rfl, rfl, rfl, by decide +kernel, rfl, by decide +kernel, by decide +kernel⟩
theorem sc_hRead : FnScope ["self", "text", "plan", "fault"] ["self", "text"] (defScope s_hRead) := ⟨rfl, rfl, rfl, by decide +kernel, rfl, by decide +kernel, by decide +kernel⟩
theorem sc_hAnswer : FnScope ["self", "number", "words"] ["self", "number", "words"] (defScope s_hAnswer) := ⟨rfl, rfl, rfl, by decide +kernel, rfl, by decide +kernel, by decide +kernel⟩
theorem sc_answers : FnScope ["calls", "holder", "found", "at", "number", "begin", "told"] ["calls"] (defScope s_answers) := ⟨rfl, rfl, rfl, by decide +kernel, rfl, by decide +kernel, by decide +kernel⟩
section
variable {K : PySem.W.Frag} {mg : Str → Option Value} {A : Ad}
theorem Txt.b_melted (T : Txt K mg A) : Binds K A.d_melted ["water", "salt"] [] := T.F_melted.binds fun _ _ _ _ _ _ us hl => match us, hl with | [_, _], _ => rfl
theorem Txt.b_share (T : Txt K mg A) : Binds K A.d_share ["water", "salt", "goes"] [] := T.F_share.binds fun _ _ _ _ _ _ us hl => match us, hl with | [_, _, _], _ => rfl
theorem Txt.b_pInit (T : Txt K mg A) : Binds K A.d_pInit ["self", "plan"] [] := T.F_pInit.binds fun _ _ _ _ _ _ us hl => match us, hl with | [_, _], _ => rfl
theorem Txt.b_copied (T : Txt K mg A) : Binds K A.d_copied ["self"] [] := T.F_copied.binds fun _ _ _ _ _ _ us hl => match us, hl with | [_], _ => rfl
theorem Txt.b_deeds (T : Txt K mg A) : Binds K A.d_deeds ["self"] [] := T.F_deeds.binds fun _ _ _ _ _ _ us hl => match us, hl with | [_], _ => rfl
theorem Txt.b_room (T : Txt K mg A) : Binds K A.d_room ["self", "i"] [] := T.F_room.binds fun _ _ _ _ _ _ us hl => match us, hl with | [_, _], _ => rfl
theorem Txt.b_fill (T : Txt K mg A) : Binds K A.d_fill ["self"] [] := T.F_fill.binds fun _ _ _ _ _ _ us hl => match us, hl with | [_], _ => rfl
theorem Txt.b_rake (T : Txt K mg A) : Binds K A.d_rake ["self"] [] := T.F_rake.binds fun _ _ _ _ _ _ us hl => match us, hl with | [_], _ => rfl
theorem Txt.b_sluice (T : Txt K mg A) : Binds K A.d_sluice ["self", "i"] [] := T.F_sluice.binds fun _ _ _ _ _ _ us hl => match us, hl with | [_, _], _ => rfl
theorem Txt.b_rain (T : Txt K mg A) : Binds K A.d_rain ["self", "i", "much"] [] := T.F_rain.binds fun _ _ _ _ _ _ us hl => match us, hl with | [_, _, _], _ => rfl
theorem Txt.b_weather (T : Txt K mg A) : Binds K A.d_weather ["self"] [] := T.F_weather.binds fun _ _ _ _ _ _ us hl => match us, hl with | [_], _ => rfl
theorem Txt.b_day (T : Txt K mg A) : Binds K A.d_day ["self", "deed"] [] := T.F_day.binds fun _ _ _ _ _ _ us hl => match us, hl with | [_, _], _ => rfl
theorem Txt.b_pPour (T : Txt K mg A) : Binds K A.d_pPour ["self", "i", "water", "salt"] [] := T.F_pPour.binds fun _ _ _ _ _ _ us hl => match us, hl with | [_, _, _, _], _ => rfl
theorem Txt.b_told (T : Txt K mg A) : Binds K A.d_told ["self", "i"] [] := T.F_told.binds fun _ _ _ _ _ _ us hl => match us, hl with | [_, _], _ => rfl
theorem Txt.b_sums (T : Txt K mg A) : Binds K A.d_sums ["self"] [] := T.F_sums.binds fun _ _ _ _ _ _ us hl => match us, hl with | [_], _ => rfl
theorem Txt.b_fInit (T : Txt K mg A) : Binds K A.d_fInit ["self"] [] := T.F_fInit.binds fun _ _ _ _ _ _ us hl => match us, hl with | [_], _ => rfl
theorem Txt.b_look (T : Txt K mg A) : Binds K A.d_look ["self", "pans", "deeds", "left"] [] := T.F_look.binds fun _ _ _ _ _ _ us hl => match us, hl with | [_, _, _, _], _ => rfl
theorem Txt.b_keep (T : Txt K mg A) : Binds K A.d_keep ["self", "store", "deeds"] [] := T.F_keep.binds fun _ _ _ _ _ _ us hl => match us, hl with | [_, _, _], _ => rfl
theorem Txt.b_best (T : Txt K mg A) : Binds K A.d_best ["pans", "n"] [] := T.F_best.binds fun _ _ _ _ _ _ us hl => match us, hl with | [_, _], _ => rfl
theorem Txt.b_sunny (T : Txt K mg A) : Binds K A.d_sunny ["pans", "i"] [] := T.F_sunny.binds fun _ _ _ _ _ _ us hl => match us, hl with | [_, _], _ => rfl
theorem Txt.b_xInit (T : Txt K mg A) : Binds K A.d_xInit ["self", "number"] [] := T.F_xInit.binds fun _ _ _ _ _ _ us hl => match us, hl with | [_, _], _ => rfl
theorem Txt.b_lInit (T : Txt K mg A) : Binds K A.d_lInit ["self"] [] := T.F_lInit.binds fun _ _ _ _ _ _ us hl => match us, hl with | [_], _ => rfl
theorem Txt.b_lines (T : Txt K mg A) : Binds K A.d_lines ["text"] [] := T.F_lines.binds fun _ _ _ _ _ _ us hl => match us, hl with | [_], _ => rfl
theorem Txt.b_words (T : Txt K mg A) : Binds K A.d_words ["line"] [] := T.F_words.binds fun _ _ _ _ _ _ us hl => match us, hl with | [_], _ => rfl
theorem Txt.b_isName (T : Txt K mg A) : Binds K A.d_isName ["word"] [] := T.F_isName.binds fun _ _ _ _ _ _ us hl => match us, hl with | [_], _ => rfl
theorem Txt.b_isNumber (T : Txt K mg A) : Binds K A.d_isNumber ["word"] [] := T.F_isNumber.binds fun _ _ _ _ _ _ us hl => match us, hl with | [_], _ => rfl
theorem Txt.b_worth (T : Txt K mg A) : Binds K A.d_worth ["word"] [] := T.F_worth.binds fun _ _ _ _ _ _ us hl => match us, hl with | [_], _ => rfl
theorem Txt.b_asTold (T : Txt K mg A) : Binds K A.d_asTold ["words"] [] := T.F_asTold.binds fun _ _ _ _ _ _ us hl => match us, hl with | [_], _ => rfl
theorem Txt.b_tooMany (T : Txt K mg A) : Binds K A.d_tooMany ["plan", "word"] [] := T.F_tooMany.binds fun _ _ _ _ _ _ us hl => match us, hl with | [_, _], _ => rfl
theorem Txt.b_inBounds (T : Txt K mg A) : Binds K A.d_inBounds ["word", "numbers"] [] := T.F_inBounds.binds fun _ _ _ _ _ _ us hl => match us, hl with | [_, _], _ => rfl
theorem Txt.b_lookLine (T : Txt K mg A) : Binds K A.d_lookLine ["plan", "words"] [] := T.F_lookLine.binds fun _ _ _ _ _ _ us hl => match us, hl with | [_, _], _ => rfl
theorem Txt.b_takeLine (T : Txt K mg A) : Binds K A.d_takeLine ["plan", "words"] [] := T.F_takeLine.binds fun _ _ _ _ _ _ us hl => match us, hl with | [_, _], _ => rfl
theorem Txt.b_read (T : Txt K mg A) : Binds K A.d_read ["text"] [] := T.F_read.binds fun _ _ _ _ _ _ us hl => match us, hl with | [_], _ => rfl
theorem Txt.b_standing (T : Txt K mg A) : Binds K A.d_standing ["pans"] [] := T.F_standing.binds fun _ _ _ _ _ _ us hl => match us, hl with | [_], _ => rfl
theorem Txt.b_do_ (T : Txt K mg A) : Binds K A.d_do_ ["pans", "d"] [] := T.F_do_.binds fun _ _ _ _ _ _ us hl => match us, hl with | [_, _], _ => rfl
theorem Txt.b_wait (T : Txt K mg A) : Binds K A.d_wait ["pans", "n"] [] := T.F_wait.binds fun _ _ _ _ _ _ us hl => match us, hl with | [_, _], _ => rfl
theorem Txt.b_bestTold (T : Txt K mg A) : Binds K A.d_bestTold ["pans", "n"] [] := T.F_bestTold.binds fun _ _ _ _ _ _ us hl => match us, hl with | [_, _], _ => rfl
theorem Txt.b_sun (T : Txt K mg A) : Binds K A.d_sun ["pans", "i"] [] := T.F_sun.binds fun _ _ _ _ _ _ us hl => match us, hl with | [_, _], _ => rfl
theorem Txt.b_pour (T : Txt K mg A) : Binds K A.d_pour ["pans", "i", "w", "s"] [] := T.F_pour.binds fun _ _ _ _ _ _ us hl => match us, hl with | [_, _, _, _], _ => rfl
theorem Txt.b_ofPan (T : Txt K mg A) : Binds K A.d_ofPan ["pans", "number", "words"] [] := T.F_ofPan.binds fun _ _ _ _ _ _ us hl => match us, hl with | [_, _, _], _ => rfl
theorem Txt.b_ofWorks (T : Txt K mg A) : Binds K A.d_ofWorks ["pans", "number", "words"] [] := T.F_ofWorks.binds fun _ _ _ _ _ _ us hl => match us, hl with | [_, _, _], _ => rfl
theorem Txt.b_hInit (T : Txt K mg A) : Binds K A.d_hInit ["self"] [] := T.F_hInit.binds fun _ _ _ _ _ _ us hl => match us, hl with | [_], _ => rfl
theorem Txt.b_hRead (T : Txt K mg A) : Binds K A.d_hRead ["self", "text"] [] := T.F_hRead.binds fun _ _ _ _ _ _ us hl => match us, hl with | [_, _], _ => rfl
theorem Txt.b_hAnswer (T : Txt K mg A) : Binds K A.d_hAnswer ["self", "number", "words"] [] := T.F_hAnswer.binds fun _ _ _ _ _ _ us hl => match us, hl with | [_, _, _], _ => rfl
theorem Txt.b_answers (T : Txt K mg A) : Binds K A.d_answers ["calls"] [] := T.F_answers.binds fun _ _ _ _ _ _ us hl => match us, hl with | [_], _ => rfl
end
end Sal
namespace Sal
open PySem PySem.Spec PyProof.Rows L2
open Mu17 (Works State Brine Deed Pan Day)
/-! ### rules of our own -/
theorem get_list {X : Cx} : PGet X (rIxL X.K) := by
  intro pins s σ H o i ov iv Q I ro ri h
  obtain ⟨p, xs, k, z, rfl, rfl, hq, he, q⟩ := h
  cases ro
  obtain ⟨t, rfl⟩ := ri
  obtain ⟨its, r, pl, hz⟩ := I.list hq
  obtain ⟨j, h1, h2, h3, h4, h5⟩ := atI_get he
  obtain ⟨w, ew, rw'⟩ := r.get h2
  have hl := r.length
  have hn := line63
  have fin : EP X pins σ Q w s := ⟨z, H, I, rw', q⟩
  by_cases h0 : 0 ≤ k
  · have hj : k.toNat = j := by
      rw [seqIndex_of h0 h5] at h1
      exact Option.some.inj h1
    exact wpAny_getItem_list pl.isList h0 (by omega) (by rw [hj]; simpa using ew) fin
  · have hj : (k + (its.toArray.size : Int)).toNat = j := by
      rw [seqIndex_neg (by omega) h4] at h1
      rw [List.size_toArray, ← hl]
      exact Option.some.inj h1
    exact wpAny_getItem_list_neg pl.isList (by omega) (by rw [List.size_toArray] <;> omega) (by omega) (by rw [hj]; simpa using ew) fin
theorem pe_ci {X : Cx} {x : Str} {n : Int} {pos : Pos} (hg : Gl X x) (h : ∃ tk, X.mg x = some (.int n tk)) (hd : (x == ("__debug__" : Str)) = false := by decide) : PE X (.Name x pos) (tC (.int n)) := by
  obtain ⟨t, e⟩ := h
  exact pe_glob hg e ⟨t, rfl⟩ hd
theorem pe_cr {X : Cx} {x : Str} {a : Addr} {pos : Pos} (hg : Gl X x) (h : X.mg x = some (.ref a)) (hd : (x == ("__debug__" : Str)) = false := by decide) : PE X (.Name x pos) (tC (.ref a)) := pe_glob hg h rfl hd
theorem if_true_of {c : Bool} {A B : Prop} (hc : c = true) (h : A) : if c = true then A else B := by
  rw [if_pos hc]
  exact h
theorem if_false_of {c : Bool} {A B : Prop} (hc : c = false) (h : B) : if c = true then A else B := by
  rw [hc, if_neg Bool.false_ne_true]
  exact h
theorem KL.sq {K : PySem.W.Frag} {a : Addr} {xs : List V} (h : KL K a xs) (H : Hp) : SqL K H a xs := .inr h
theorem KT.sq {K : PySem.W.Frag} {a : Addr} {xs : List V} (h : KT K a xs) (H : Hp) : SqT K H a xs := .inr h
/-! ### values, in short -/
section
variable {σ : L2.St} {H : Hp} {v x y z : V} {ta tb te tO ti : TE} {K : PySem.W.Frag} {p : Addr} {xs : List V} {i j : Int} {D : Ends} {P : Hp → Prop}
theorem val_ixL (h : Val tO σ H (.ref p)) (hi : Val ti σ H (.int i)) (hs : SqL K H p xs) (ha : atI xs i = some v) : Val (tOp (rIxL K) tO ti) σ H v := val_op h hi fun _ q => ⟨p, xs, i, v, rfl, rfl, hs, ha, q⟩
theorem val_ixT (h : Val tO σ H (.ref p)) (hi : Val ti σ H (.int i)) (hs : SqT K H p xs) (ha : atI xs i = some v) : Val (tOp (rIxT K) tO ti) σ H v := val_op h hi fun _ q => ⟨p, xs, i, v, rfl, rfl, hs, ha, q⟩
theorem val_I0 {g : Int → Int → V} (ha : Val ta σ H (.int i)) (hb : Val tb σ H (.int j)) : Val (tOp (rI0 g) ta tb) σ H (g i j) := val_op ha hb fun _ q => ⟨i, j, rfl, rfl, q⟩
theorem val_I {C : Int → Int → Prop} {g : Int → Int → V} (ha : Val ta σ H (.int i)) (hb : Val tb σ H (.int j)) (hc : C i j) : Val (tOp (rI C g) ta tb) σ H (g i j) := val_op ha hb fun _ q => ⟨i, j, rfl, rfl, hc, q⟩
theorem val_len (ha : Val ta σ H (.ref p)) (h : SqL K H p xs) : Val (tCB (fun xs H Q => ∃ p ys, xs = [.ref p] ∧ (SqL K H p ys ∨ SqT K H p ys) ∧ Q (.int ys.length) H) (tCons ta tNil)) σ H (.int xs.length) := fun _ q =>
  ha _ ⟨p, xs, rfl, .inl h, q⟩
theorem val_min2 (ha : Val ta σ H (.int i)) (hb : Val tb σ H (.int j)) : Val (tCB (fun xs H Q => ∃ i j, xs = [.int i, .int j] ∧ Q (.int (if j < i then j else i)) H) (tCons ta (tCons tb tNil))) σ H (.int (if j < i then j else i)) := fun _ q =>
  ha _ (hb _ ⟨i, j, rfl, q⟩)
/-- arguments that change nothing -/
def ValA (t : TA) (σ : L2.St) (H : Hp) (vs : List V) : Prop := ∀ Q : List V → Hp → Prop, Q vs H → t σ H Q
theorem va_nil : ValA tNil σ H [] := fun _ q => q
theorem va_cons {t : TA} {vs : List V} (h : Val te σ H v) (r : ValA t σ H vs) : ValA (tCons te t) σ H (v :: vs) := fun _ q => h _ (r _ q)
/-- for i in range(n) -/
theorem st_forR {n k : Nat} {tb : TS} (he : Val te σ H (.int (n : Int))) (hn : n ≤ 1000) (Pv : Nat → L2.St → Hp → Prop) (h0 : Pv 0 σ H)
    (hs : ∀ (i : Nat) (σ : L2.St) (H : Hp), i < n → Pv i σ H → tb { D with nx := Pv (i + 1), ct := Pv (i + 1), bk := D.nx } (σ.set k (some (.int (i : Int)))) H) (hd : ∀ σ H, Pv n σ H → D.nx σ H) : tFor (iRng1 (tCons te tNil)) (gName k) tb D σ H := by
  refine he _ ⟨(n : Int), rfl, by omega, by omega, ?_⟩
  rw [Int.toNat_natCast]
  refine for_range (lo := 0) (n := n) Pv h0 (fun i σ H hi p => ?_) hd
  have q := hs i σ H hi p
  rw [← Int.zero_add (i : Int)] at q
  exact q
/-- return [..] -/
theorem st_retL {t : TA} {vs : List V} (h : ValA t σ H vs) (hl : vs.length ≤ 1000) (q : ∀ p, H p = none → D.rt (.ref p) (upd H p (.lst vs))) : tRet (tLst t) D σ H :=
  h _ ⟨Nat.le_trans hl (by decide), q⟩
theorem an_lt {b : Bool} (ha : Val ta σ H (.int i)) (hb : Val tb σ H (.int j)) (hd : decide (i < j) = b) : Ans (tTest (tOp (rI0 fun i j => .bl (decide (i < j))) ta tb)) σ H b := ans_cmp ha hb fun Q q => ⟨i, j, rfl, rfl, by subst hd; exact q⟩
theorem an_le {b : Bool} (ha : Val ta σ H (.int i)) (hb : Val tb σ H (.int j)) (hd : decide (i ≤ j) = b) : Ans (tTest (tOp (rI0 fun i j => .bl (decide (i ≤ j))) ta tb)) σ H b := ans_cmp ha hb fun Q q => ⟨i, j, rfl, rfl, by subst hd; exact q⟩
theorem an_gt {b : Bool} (ha : Val ta σ H (.int i)) (hb : Val tb σ H (.int j)) (hd : decide (j < i) = b) : Ans (tTest (tOp (rI0 fun i j => .bl (decide (j < i))) ta tb)) σ H b := ans_cmp ha hb fun Q q => ⟨i, j, rfl, rfl, by subst hd; exact q⟩
theorem an_ge {b : Bool} (ha : Val ta σ H (.int i)) (hb : Val tb σ H (.int j)) (hd : decide (j ≤ i) = b) : Ans (tTest (tOp (rI0 fun i j => .bl (decide (j ≤ i))) ta tb)) σ H b := ans_cmp ha hb fun Q q => ⟨i, j, rfl, rfl, by subst hd; exact q⟩
theorem an_eqI {b : Bool} (ha : Val ta σ H (.int i)) (hb : Val tb σ H (.int j)) (hd : decide (i = j) = b) : Ans (tTest (tOp rEq ta tb)) σ H b := ans_eq ha hb rfl (by rw [← hd]; by_cases e : i = j <;> simp [e])
theorem val_eqI {b : Bool} (ha : Val ta σ H (.int i)) (hb : Val tb σ H (.int j)) (hd : decide (i = j) = b) : Val (tOp rEq ta tb) σ H (.bl b) := val_op ha hb fun Q q => ⟨rfl, by rw [show decide (V.int i = V.int j) = b by rw [← hd]; by_cases e : i = j <;> simp [e]]; exact q⟩
/-- an if whose test is b: both ways -/
theorem st_if {c : TT} {b : Bool} {t1 t2 : TS} (h : Ans c σ H b) (q1 : b = true → t1 D σ H) (q2 : b = false → t2 D σ H) : tIfS c t1 t2 D σ H := by
  cases b with
  | true => exact st_yes h (q1 rfl)
  | false => exact st_no h (q2 rfl)
theorem val_to {v' : V} (h : Val te σ H v) (e : v = v') : Val te σ H v' := e ▸ h
theorem min_nat (a b : Nat) : (if (b : Int) < (a : Int) then (b : Int) else (a : Int)) = ((min a b : Nat) : Int) := by
  split <;> omega
end
/-! ### what is kept -/
def Keeps (S : List Addr) (H H' : Hp) : Prop := ∀ b o, H b = some o → b ∉ S → H' b = some o
section
variable {S S' : List Addr} {H H1 H2 : Hp} {a : Addr} {o : HO}
theorem Keeps.refl : Keeps S H H := fun _ _ h _ => h
theorem Keeps.trans (k1 : Keeps S H H1) (k2 : Keeps S H1 H2) : Keeps S H H2 := fun b o h hb => k2 b o (k1 b o h hb) hb
theorem Keeps.mono (k : Keeps S H H1) (h : ∀ b ∈ S, b ∈ S') : Keeps S' H H1 := fun b o e hb => k b o e fun z => hb (h b z)
theorem Keeps.upd (h : a ∈ S) : Keeps S H (L2.upd H a o) := fun b u e hb => by
  rw [upd_ne (fun z => hb (by rw [z]; exact h))]
  exact e
theorem Keeps.new (h : H a = none) : Keeps S H (L2.upd H a o) := fun b u e _ => by
  rw [upd_ne (ne_of_none e h)]
  exact e
theorem Keeps.same (k : Keeps [] H H1) : Same H H1 := fun b o e => k b o e (by simp)
theorem Keeps.of_same (k : Same H H1) : Keeps S H H1 := fun b o e _ => k b o e
theorem Keeps.free (k : Keeps S H H1) {l : Addr} (h : H1 l = none) (hl : l ∉ S) : H l = none := by
  cases q : H l with
  | none => rfl
  | some o =>
    rw [k l o q hl] at h
    cases h
theorem Keeps.seqL {K : PySem.W.Frag} {xs : List V} (k : Keeps S H H1) (h : SqL K H a xs) (ha : a ∉ S) : SqL K H1 a xs := by
  rcases h with (h | ⟨o, h⟩) | h
  · exact .inl (.inl (k _ _ h ha))
  · exact .inl (.inr ⟨o, k _ _ h ha⟩)
  · exact .inr h
end
/-! ### the plan in the heap -/
structure PlA where
  pl : Addr
  dp : Addr
  pp : Addr
  dd : Addr
  ps : List Addr
  ds : List Addr
def PlA.foot (p : PlA) : List Addr := p.pl :: p.pp :: p.dd :: (p.ps ++ p.ds)
def seaV : Option Nat → V
  | none => .non
  | some n => .int n
def lF (p : PlA) (W : Works) : List (Str × V) := [("pans", .ref p.pp), ("days", .ref p.dd), ("sea", seaV W.sea)]
structure PlanAt (C : Addr) (H : Hp) (p : PlA) (W : Works) : Prop where
  obj : H p.pl = some (.ins C p.dp (lF p W))
  lp : H p.pp = some (.lst (p.ps.map V.ref))
  ld : H p.dd = some (.lst (p.ds.map V.ref))
  np : p.ps.length = W.pans.length
  nd : p.ds.length = W.days.length
  tp : ∀ (i : Nat) (b : Addr) (q : Pan), p.ps[i]? = some b → W.pans[i]? = some q → H b = some (.tup [.int q.area, .int q.holds])
  td : ∀ (i : Nat) (b : Addr) (q : Day), p.ds[i]? = some b → W.days[i]? = some q → H b = some (.tup [.int q.sun, .int q.rain])
theorem PlanAt.keep {C : Addr} {H H' : Hp} {p : PlA} {W : Works} (h : PlanAt C H p W) (k : ∀ b ∈ p.foot, ∀ o, H b = some o → H' b = some o) : PlanAt C H' p W := by
  refine ⟨k _ (by simp [PlA.foot]) _ h.obj, k _ (by simp [PlA.foot]) _ h.lp, k _ (by simp [PlA.foot]) _ h.ld, h.np, h.nd, fun i b q h1 h2 => ?_, fun i b q h1 h2 => ?_⟩
  · exact k b (by have := List.mem_of_getElem? h1; simp [PlA.foot, this]) _ (h.tp i b q h1 h2)
  · exact k b (by have := List.mem_of_getElem? h1; simp [PlA.foot, this]) _ (h.td i b q h1 h2)
/-- the pans' object: itself, its own dict, its two lists, the plan -/
structure PaA where
  a : Addr
  dx : Addr
  wl : Addr
  sl : Addr
  p : PlA
def PaA.mine (P : PaA) : List Addr := [P.a, P.wl, P.sl]
def PaA.all (P : PaA) : List Addr := P.a :: P.wl :: P.sl :: P.p.foot
def pF (P : PaA) (s : State) : List (Str × V) := [("plan", .ref P.p.pl), ("water", .ref P.wl), ("salt", .ref P.sl), ("store", .int s.store), ("away", .int s.away), ("drawn", .int s.drawn), ("came", .int s.salted), ("gone_by", .int s.day)]
def waters (s : State) : List V := s.pans.map fun b => V.int (b.water : Int)
def salts (s : State) : List V := s.pans.map fun b => V.int (b.salt : Int)
structure PansAt (C CP : Addr) (H : Hp) (P : PaA) (s : State) : Prop where
  obj : H P.a = some (.ins C P.dx (pF P s))
  lw : H P.wl = some (.lst (waters s))
  ls : H P.sl = some (.lst (salts s))
  plan : PlanAt CP H P.p s.works
  nws : P.wl ≠ P.sl
  dj : ∀ b ∈ P.p.foot, b ≠ P.a ∧ b ≠ P.wl ∧ b ≠ P.sl
theorem PansAt.keep {C CP : Addr} {H H' : Hp} {P : PaA} {s : State} (h : PansAt C CP H P s) (k : ∀ b ∈ P.all, ∀ o, H b = some o → H' b = some o) : PansAt C CP H' P s :=
  ⟨k _ (by simp [PaA.all]) _ h.obj, k _ (by simp [PaA.all]) _ h.lw, k _ (by simp [PaA.all]) _ h.ls, h.plan.keep fun b hb o e => k b (by simp [PaA.all, hb]) o e, h.nws, h.dj⟩
theorem PansAt.keeps {C CP : Addr} {S : List Addr} {H H' : Hp} {P : PaA} {s : State} (h : PansAt C CP H P s) (k : Keeps S H H') (d : ∀ b ∈ P.all, b ∉ S) : PansAt C CP H' P s := h.keep fun b hb o e => k b o e (d b hb)
theorem PansAt.same {C CP : Addr} {H H' : Hp} {P : PaA} {s : State} (h : PansAt C CP H P s) (k : Same H H') : PansAt C CP H' P s := h.keep fun b hb o e => k b o e
theorem PansAt.new {C CP : Addr} {H : Hp} {P : PaA} {s : State} {a : Addr} {o : HO} (h : PansAt C CP H P s) (n : H a = none) : PansAt C CP (upd H a o) P s := h.same (Keeps.new (S := []) n).same
theorem PansAt.naw {C CP : Addr} {H : Hp} {P : PaA} {s : State} (h : PansAt C CP H P s) : P.a ≠ P.wl := ne_of h.obj h.lw (fun z => by cases z)
theorem PansAt.nas {C CP : Addr} {H : Hp} {P : PaA} {s : State} (h : PansAt C CP H P s) : P.a ≠ P.sl := ne_of h.obj h.ls (fun z => by cases z)
/-! ### field lists -/
theorem lk_here {k : Str} {v : V} {r : List (Str × V)} : List.lookup k ((k, v) :: r) = some v := by
  have e : (k == k) = true := beq_self_eq_true k
  simp only [List.lookup, e]
theorem lk_past {k g : Str} {v : V} {r : List (Str × V)} (h : (k == g) = false) : List.lookup k ((g, v) :: r) = List.lookup k r := by
  simp only [List.lookup, h]
theorem put_here {f : Str} {v x : V} {r : List (Str × V)} : putF f v ((f, x) :: r) = (f, v) :: r := if_pos rfl
theorem put_past {f g : Str} {v x : V} {r r' : List (Str × V)} (h : ¬ g = f) (e : putF f v r = r') : putF f v ((g, x) :: r) = (g, x) :: r' := (if_neg h).trans (congrArg _ e)
theorem lk_none {k : Str} : ∀ {fs : List (Str × V)}, (fs.map (·.1)).all (fun g => !(k == g)) = true → fs.lookup k = none
  | [], _ => rfl
  | (g, v) :: r, h => by
    rw [List.map_cons, List.all_cons, Bool.and_eq_true] at h
    rw [lk_past (by simpa using h.1)]
    exact lk_none h.2
theorem pF_plan (P : PaA) (s : State) : (pF P s).lookup ("plan" : Str) = some (.ref P.p.pl) := lk_here
theorem pF_water (P : PaA) (s : State) : (pF P s).lookup ("water" : Str) = some (.ref P.wl) := (lk_past (by decide +kernel)).trans lk_here
theorem pF_salt (P : PaA) (s : State) : (pF P s).lookup ("salt" : Str) = some (.ref P.sl) := (lk_past (by decide +kernel)).trans ((lk_past (by decide +kernel)).trans lk_here)
theorem pF_store (P : PaA) (s : State) : (pF P s).lookup ("store" : Str) = some (.int s.store) := (lk_past (by decide +kernel)).trans ((lk_past (by decide +kernel)).trans ((lk_past (by decide +kernel)).trans lk_here))
theorem pF_away (P : PaA) (s : State) : (pF P s).lookup ("away" : Str) = some (.int s.away) := (lk_past (by decide +kernel)).trans ((lk_past (by decide +kernel)).trans ((lk_past (by decide +kernel)).trans ((lk_past (by decide +kernel)).trans lk_here)))
theorem pF_drawn (P : PaA) (s : State) : (pF P s).lookup ("drawn" : Str) = some (.int s.drawn) := (lk_past (by decide +kernel)).trans ((lk_past (by decide +kernel)).trans ((lk_past (by decide +kernel)).trans ((lk_past (by decide +kernel)).trans ((lk_past (by decide +kernel)).trans lk_here))))
theorem pF_came (P : PaA) (s : State) : (pF P s).lookup ("came" : Str) = some (.int s.salted) := (lk_past (by decide +kernel)).trans ((lk_past (by decide +kernel)).trans ((lk_past (by decide +kernel)).trans ((lk_past (by decide +kernel)).trans ((lk_past (by decide +kernel)).trans ((lk_past (by decide +kernel)).trans lk_here)))))
theorem pF_gone (P : PaA) (s : State) : (pF P s).lookup ("gone_by" : Str) = some (.int s.day) := (lk_past (by decide +kernel)).trans ((lk_past (by decide +kernel)).trans ((lk_past (by decide +kernel)).trans ((lk_past (by decide +kernel)).trans ((lk_past (by decide +kernel)).trans ((lk_past (by decide +kernel)).trans ((lk_past (by decide +kernel)).trans lk_here))))))
theorem pF_none (P : PaA) (s : State) {m : Str} (h : (["plan", "water", "salt", "store", "away", "drawn", "came", "gone_by"] : List Str).all (fun g => !(m == g)) = true) : (pF P s).lookup m = none := lk_none h
theorem pF_len (P : PaA) (s : State) : (pF P s).length < 1000 := by show 8 < 1000; decide
theorem put_store (P : PaA) (s : State) {n : Nat} : putF "store" (.int n) (pF P s) = pF P { s with store := n } := put_past (by decide +kernel) (put_past (by decide +kernel) (put_past (by decide +kernel) put_here))
theorem put_away (P : PaA) (s : State) {n : Nat} : putF "away" (.int n) (pF P s) = pF P { s with away := n } := put_past (by decide +kernel) (put_past (by decide +kernel) (put_past (by decide +kernel) (put_past (by decide +kernel) put_here)))
theorem put_drawn (P : PaA) (s : State) {n : Nat} : putF "drawn" (.int n) (pF P s) = pF P { s with drawn := n } := put_past (by decide +kernel) (put_past (by decide +kernel) (put_past (by decide +kernel) (put_past (by decide +kernel) (put_past (by decide +kernel) put_here))))
theorem put_came (P : PaA) (s : State) {n : Nat} : putF "came" (.int n) (pF P s) = pF P { s with salted := n } := put_past (by decide +kernel) (put_past (by decide +kernel) (put_past (by decide +kernel) (put_past (by decide +kernel) (put_past (by decide +kernel) (put_past (by decide +kernel) put_here)))))
theorem put_gone (P : PaA) (s : State) {n : Nat} : putF "gone_by" (.int n) (pF P s) = pF P { s with day := n } := put_past (by decide +kernel) (put_past (by decide +kernel) (put_past (by decide +kernel) (put_past (by decide +kernel) (put_past (by decide +kernel) (put_past (by decide +kernel) (put_past (by decide +kernel) put_here))))))
theorem lF_pans (p : PlA) (W : Works) : (lF p W).lookup ("pans" : Str) = some (.ref p.pp) := lk_here
theorem lF_days (p : PlA) (W : Works) : (lF p W).lookup ("days" : Str) = some (.ref p.dd) := (lk_past (by decide +kernel)).trans lk_here
theorem lF_sea (p : PlA) (W : Works) : (lF p W).lookup ("sea" : Str) = some (seaV W.sea) := (lk_past (by decide +kernel)).trans ((lk_past (by decide +kernel)).trans lk_here)
/-! ### a state changed at one place -/
def setW (s : State) (i w : Nat) : State := { s with pans := s.pans.set i ⟨w, (Mu17.at_ s i).salt⟩ }
def setS (s : State) (i v : Nat) : State := { s with pans := s.pans.set i ⟨(Mu17.at_ s i).water, v⟩ }
theorem set_map {α β : Type} (f : α → β) : ∀ (l : List α) (i : Nat) (x : α), (l.map f).set i (f x) = (l.set i x).map f
  | [], _, _ => rfl
  | _ :: _, 0, _ => rfl
  | a :: l, i + 1, x => congrArg (f a :: ·) (set_map f l i x)
theorem set_same {α : Type} : ∀ (l : List α) (i : Nat) (x : α), l[i]? = some x → l.set i x = l
  | [], _, _, _ => rfl
  | a :: l, 0, x, h => by cases Option.some.inj h; rfl
  | a :: l, i + 1, x, h => congrArg (a :: ·) (set_same l i x h)
theorem waters_set (s : State) {i w : Nat} : waters (setW s i w) = (waters s).set i (.int w) := by
  unfold waters setW
  exact (set_map (fun b : Brine => V.int (b.water : Int)) s.pans i ⟨w, _⟩).symm
theorem salts_setW (s : State) {i w : Nat} (h : i < s.pans.length) : salts (setW s i w) = salts s := by
  unfold salts setW
  show (s.pans.set i _).map _ = _
  rw [← set_map (fun b : Brine => V.int (b.salt : Int)) s.pans i ⟨w, (Mu17.at_ s i).salt⟩]
  apply set_same
  rw [List.getElem?_map, at_get h]
  rfl
theorem salts_set (s : State) {i w : Nat} : salts (setS s i w) = (salts s).set i (.int w) := by
  unfold salts setS
  exact (set_map (fun b : Brine => V.int (b.salt : Int)) s.pans i ⟨_, w⟩).symm
theorem waters_setS (s : State) {i w : Nat} (h : i < s.pans.length) : waters (setS s i w) = waters s := by
  unfold waters setS
  show (s.pans.set i _).map _ = _
  rw [← set_map (fun b : Brine => V.int (b.water : Int)) s.pans i ⟨(Mu17.at_ s i).water, w⟩]
  apply set_same
  rw [List.getElem?_map, at_get h]
  rfl
theorem setW_len (s : State) (i w : Nat) : (setW s i w).pans.length = s.pans.length := List.length_set
theorem setS_len (s : State) (i w : Nat) : (setS s i w).pans.length = s.pans.length := List.length_set
theorem setW_at (s : State) {i j w : Nat} (h : i < s.pans.length) : Mu17.at_ (setW s i w) j = if j = i then ⟨w, (Mu17.at_ s i).salt⟩ else Mu17.at_ s j := set_at (l := s.pans) h
theorem setS_at (s : State) {i j w : Nat} (h : i < s.pans.length) : Mu17.at_ (setS s i w) j = if j = i then ⟨(Mu17.at_ s i).water, w⟩ else Mu17.at_ s j := set_at (l := s.pans) h
theorem water_at {s : State} {i : Nat} (h : i < s.pans.length) : atI (waters s) (i : Int) = some (.int (Mu17.at_ s i).water) := atI_nat (by unfold waters; rw [List.getElem?_map, at_get h]; rfl)
theorem salt_at {s : State} {i : Nat} (h : i < s.pans.length) : atI (salts s) (i : Int) = some (.int (Mu17.at_ s i).salt) := atI_nat (by unfold salts; rw [List.getElem?_map, at_get h]; rfl)
theorem waters_len (s : State) : (waters s).length = s.pans.length := List.length_map _
theorem salts_len (s : State) : (salts s).length = s.pans.length := List.length_map _
theorem ixN_nat {n i : Nat} (h : i < n) : ixN n (i : Int) = some i := by
  unfold ixN
  rw [if_pos (by omega), if_pos (by omega)]
  simp
section
variable {C CP : Addr} {H : Hp} {P : PaA} {s : State} {i w n : Nat}
theorem PansAt.setW (h : PansAt C CP H P s) (hi : i < s.pans.length) : PansAt C CP (upd H P.wl (.lst ((waters s).set i (.int w)))) P (Sal.setW s i w) := by
  refine ⟨?_, ?_, ?_, ?_, h.nws, h.dj⟩
  · rw [upd_ne h.naw]; exact h.obj
  · rw [upd_same, waters_set]
  · rw [upd_ne (Ne.symm h.nws), salts_setW s hi]; exact h.ls
  · exact h.plan.keep fun b hb o e => by rw [upd_ne (h.dj b hb).2.1]; exact e
theorem PansAt.setS (h : PansAt C CP H P s) (hi : i < s.pans.length) : PansAt C CP (upd H P.sl (.lst ((salts s).set i (.int w)))) P (Sal.setS s i w) := by
  refine ⟨?_, ?_, ?_, ?_, h.nws, h.dj⟩
  · rw [upd_ne h.nas]; exact h.obj
  · rw [upd_ne h.nws, waters_setS s hi]; exact h.lw
  · rw [upd_same, salts_set]
  · exact h.plan.keep fun b hb o e => by rw [upd_ne (h.dj b hb).2.2]; exact e
/-- a field stored: s' has the same pans and works -/
theorem PansAt.fld {s' : State} {fs : List (Str × V)} (h : PansAt C CP H P s) (e : fs = pF P s') (hp : s'.pans = s.pans) (hw : s'.works = s.works) : PansAt C CP (upd H P.a (.ins C P.dx fs)) P s' := by
  refine ⟨?_, ?_, ?_, ?_, h.nws, h.dj⟩
  · rw [upd_same, e]
  · rw [upd_ne (Ne.symm h.naw)]; unfold waters; rw [hp]; exact h.lw
  · rw [upd_ne (Ne.symm h.nas)]; unfold salts; rw [hp]; exact h.ls
  · rw [hw]; exact h.plan.keep fun b hb o e => by rw [upd_ne (h.dj b hb).1]; exact e
end
/-! ### what is read off the pans -/
section
variable {K : PySem.W.Frag} {mg : Str → Option Value} {A : Ad} {H : Hp} {P : PaA} {s : State} {i : Nat} {σ : L2.St} {to ti te : TE}
theorem val_wl (T : Txt K mg A) (h : PansAt A.cPans A.cPlan H P s) (ho : Val to σ H (.ref P.a)) : Val (tFld K to "water") σ H (.ref P.wl) := val_fld ho h.obj T.clPans T.nPans_water (pF_water P s)
theorem val_sl (T : Txt K mg A) (h : PansAt A.cPans A.cPlan H P s) (ho : Val to σ H (.ref P.a)) : Val (tFld K to "salt") σ H (.ref P.sl) := val_fld ho h.obj T.clPans T.nPans_salt (pF_salt P s)
theorem val_pl (T : Txt K mg A) (h : PansAt A.cPans A.cPlan H P s) (ho : Val to σ H (.ref P.a)) : Val (tFld K to "plan") σ H (.ref P.p.pl) := val_fld ho h.obj T.clPans T.nPans_plan (pF_plan P s)
theorem val_store (T : Txt K mg A) (h : PansAt A.cPans A.cPlan H P s) (ho : Val to σ H (.ref P.a)) : Val (tFld K to "store") σ H (.int s.store) := val_fld ho h.obj T.clPans T.nPans_store (pF_store P s)
theorem val_away (T : Txt K mg A) (h : PansAt A.cPans A.cPlan H P s) (ho : Val to σ H (.ref P.a)) : Val (tFld K to "away") σ H (.int s.away) := val_fld ho h.obj T.clPans T.nPans_away (pF_away P s)
theorem val_drawn (T : Txt K mg A) (h : PansAt A.cPans A.cPlan H P s) (ho : Val to σ H (.ref P.a)) : Val (tFld K to "drawn") σ H (.int s.drawn) := val_fld ho h.obj T.clPans T.nPans_drawn (pF_drawn P s)
theorem val_came (T : Txt K mg A) (h : PansAt A.cPans A.cPlan H P s) (ho : Val to σ H (.ref P.a)) : Val (tFld K to "came") σ H (.int s.salted) := val_fld ho h.obj T.clPans T.nPans_came (pF_came P s)
theorem val_gone (T : Txt K mg A) (h : PansAt A.cPans A.cPlan H P s) (ho : Val to σ H (.ref P.a)) : Val (tFld K to "gone_by") σ H (.int s.day) := val_fld ho h.obj T.clPans T.nPans_gone_by (pF_gone P s)
theorem val_water (T : Txt K mg A) (h : PansAt A.cPans A.cPlan H P s) (hi : i < s.pans.length) (ho : Val to σ H (.ref P.a)) (hx : Val ti σ H (.int i)) : Val (tOp (rIxL K) (tFld K to "water") ti) σ H (.int (Mu17.at_ s i).water) :=
  val_ixL (val_wl T h ho) hx (SqL.of h.lw) (water_at hi)
theorem val_salt (T : Txt K mg A) (h : PansAt A.cPans A.cPlan H P s) (hi : i < s.pans.length) (ho : Val to σ H (.ref P.a)) (hx : Val ti σ H (.int i)) : Val (tOp (rIxL K) (tFld K to "salt") ti) σ H (.int (Mu17.at_ s i).salt) :=
  val_ixL (val_sl T h ho) hx (SqL.of h.ls) (salt_at hi)
theorem val_lenW (T : Txt K mg A) (h : PansAt A.cPans A.cPlan H P s) (ho : Val to σ H (.ref P.a)) : Val (tCB (fun xs H Q => ∃ p ys, xs = [.ref p] ∧ (SqL K H p ys ∨ SqT K H p ys) ∧ Q (.int ys.length) H) (tCons (tFld K to "water") tNil)) σ H (.int s.pans.length) := by
  have q := val_len (K := K) (val_wl T h ho) (SqL.of h.lw)
  rw [waters_len] at q
  exact q
/-- self.plan.pans[i] -/
theorem val_pan (T : Txt K mg A) (h : PansAt A.cPans A.cPlan H P s) (hi : i < s.works.pans.length) (ho : Val to σ H (.ref P.a)) (hx : Val ti σ H (.int i)) :
    ∃ b, Val (tOp (rIxL K) (tFld K (tFld K to "plan") "pans") ti) σ H (.ref b) ∧ H b = some (.tup [.int (Mu17.panOf s i).area, .int (Mu17.panOf s i).holds]) := by
  have hl : i < P.p.ps.length := by rw [h.plan.np]; exact hi
  refine ⟨P.p.ps[i], ?_, h.plan.tp i _ _ (List.getElem?_eq_getElem hl) (pan_get hi)⟩
  exact val_ixL (val_fld (val_pl T h ho) h.plan.obj T.clPlan T.nPlan_pans (lF_pans _ _)) hx (SqL.of h.plan.lp) (atI_nat (by rw [List.getElem?_map, List.getElem?_eq_getElem hl]; rfl))
theorem val_area (T : Txt K mg A) (h : PansAt A.cPans A.cPlan H P s) (hi : i < s.works.pans.length) (ho : Val to σ H (.ref P.a)) (hx : Val ti σ H (.int i)) :
    Val (tOp (rIxT K) (tOp (rIxL K) (tFld K (tFld K to "plan") "pans") ti) (tC (.int 0))) σ H (.int (Mu17.panOf s i).area) := by
  obtain ⟨b, h1, h2⟩ := val_pan T h hi ho hx
  exact val_ixT h1 val_c (SqT.of h2) rfl
theorem val_holds (T : Txt K mg A) (h : PansAt A.cPans A.cPlan H P s) (hi : i < s.works.pans.length) (ho : Val to σ H (.ref P.a)) (hx : Val ti σ H (.int i)) :
    Val (tOp (rIxT K) (tOp (rIxL K) (tFld K (tFld K to "plan") "pans") ti) (tC (.int 1))) σ H (.int (Mu17.panOf s i).holds) := by
  obtain ⟨b, h1, h2⟩ := val_pan T h hi ho hx
  exact val_ixT h1 val_c (SqT.of h2) rfl
theorem val_sea (T : Txt K mg A) (h : PansAt A.cPans A.cPlan H P s) {n : Nat} (hs : s.works.sea = some n) (ho : Val to σ H (.ref P.a)) : Val (tFld K (tFld K to "plan") "sea") σ H (.int n) := by
  have q := lF_sea P.p s.works
  rw [hs] at q
  exact val_fld (val_pl T h ho) h.plan.obj T.clPlan T.nPlan_sea q
/-! ### statements that change the pans -/
variable {D : Ends} {y : Int} {f : Int → Int → Int} {w : Nat}
/-- self.water[i] op= e -/
theorem st_augW (T : Txt K mg A) (h : PansAt A.cPans A.cPlan H P s) (hi : i < s.pans.length) (ho : Val to σ H (.ref P.a)) (hx : Val ti σ H (.int i)) (he : Val te σ H (.int y)) (hw : f ((Mu17.at_ s i).water : Int) y = (w : Int))
    (q : ∀ H', PansAt A.cPans A.cPlan H' P (setW s i w) → Keeps P.mine H H' → D.nx σ H') : tAugS (tFld K to "water") ti te (rIxL K) (ipI f) rSetL D σ H := by
  refine val_wl T h ho _ (hx _ ⟨P.wl, _, _, _, rfl, rfl, SqL.of h.lw, water_at hi, he _ ⟨_, _, rfl, rfl, P.wl, _, _, i, rfl, rfl, h.lw, ixN_nat (by rw [waters_len]; exact hi), ?_⟩⟩)
  rw [hw]
  exact q _ (h.setW hi) (Keeps.upd (by simp [PaA.mine]))
/-- self.salt[i] op= e -/
theorem st_augS (T : Txt K mg A) (h : PansAt A.cPans A.cPlan H P s) (hi : i < s.pans.length) (ho : Val to σ H (.ref P.a)) (hx : Val ti σ H (.int i)) (he : Val te σ H (.int y)) (hw : f ((Mu17.at_ s i).salt : Int) y = (w : Int))
    (q : ∀ H', PansAt A.cPans A.cPlan H' P (setS s i w) → Keeps P.mine H H' → D.nx σ H') : tAugS (tFld K to "salt") ti te (rIxL K) (ipI f) rSetL D σ H := by
  refine val_sl T h ho _ (hx _ ⟨P.sl, _, _, _, rfl, rfl, SqL.of h.ls, salt_at hi, he _ ⟨_, _, rfl, rfl, P.sl, _, _, i, rfl, rfl, h.ls, ixN_nat (by rw [salts_len]; exact hi), ?_⟩⟩)
  rw [hw]
  exact q _ (h.setS hi) (Keeps.upd (by simp [PaA.mine]))
/-- self.salt[i] = e -/
theorem st_setS (T : Txt K mg A) (h : PansAt A.cPans A.cPlan H P s) (hi : i < s.pans.length) (ho : Val to σ H (.ref P.a)) (hx : Val ti σ H (.int i)) (he : Val te σ H (.int (w : Int)))
    (q : ∀ H', PansAt A.cPans A.cPlan H' P (setS s i w) → Keeps P.mine H H' → D.nx σ H') : tAsg te (gSub (tFld K to "salt") ti rSetL) D σ H := by
  refine he _ (val_sl T h ho _ (hx _ ⟨P.sl, _, _, i, rfl, rfl, h.ls, ixN_nat (by rw [salts_len]; exact hi), ?_⟩))
  exact q _ (h.setS hi) (Keeps.upd (by simp [PaA.mine]))
/-- self.m(..) as a statement -/
theorem st_meth {m : Str} {sp : Sp} {t : TA} {vs : List V} (h : PansAt A.cPans A.cPlan H P s) (ho : Val to σ H (.ref P.a)) (hm : (["plan", "water", "salt", "store", "away", "drawn", "came", "gone_by"] : List Str).all (fun g => !(m == g)) = true) (ha : ValA t σ H vs)
    (q : sp (.ref P.a :: (vs ++ [])) H (fun _ H1 => D.nx σ H1) E0) : tDrop (tMeth A.cPans m sp [] E0 to t) D σ H :=
  ho _ ⟨P.a, P.dx, _, rfl, h.obj, pF_none _ _ hm, ha _ q⟩
/-- self.f += e -/
theorem st_augF {g : Str} {x : Int} {s' : State} (T : Txt K mg A) (h : PansAt A.cPans A.cPlan H P s) (hn : NoAttr K A.cPans g) (hl : (pF P s).lookup g = some (.int x)) (ho : Val to σ H (.ref P.a)) (he : Val te σ H (.int y)) (hp : putF g (.int (x + y)) (pF P s) = pF P s') (h1 : s'.pans = s.pans) (h2 : s'.works = s.works)
    (q : ∀ H', PansAt A.cPans A.cPlan H' P s' → Keeps P.mine H H' → D.nx σ H') : sFldAug K to te L2.rAdd g D σ H :=
  st_aug ho h.obj T.clPans hn hl he (fun _ z => ⟨_, _, rfl, rfl, z⟩) (pF_len P s) (q _ (h.fld hp h1 h2) (Keeps.upd (by simp [PaA.mine])))
end
end Sal
namespace Sal
open PySem PySem.Spec PyProof.Rows L2
open Mu17 (Works State Brine Deed Pan Day)
/-! ### melted, share -/
def spMelted : Sp := fun vs H Q _ => ∃ wa sa : Nat, vs = [.int wa, .int sa] ∧ Q (.int (Mu17.melted ⟨wa, sa⟩ : Nat)) H
def shareN (wa sa go : Nat) : Nat := if wa = 0 then 0 else Mu17.melted ⟨wa, sa⟩ * go / wa
def spShare : Sp := fun vs H Q _ => ∃ wa sa go : Nat, vs = [.int wa, .int sa, .int go] ∧ wa ≤ 100000 ∧ Q (.int (shareN wa sa go : Nat)) H
section
variable {P : Program} {w : World} {K : PySem.W.Frag} {mg : Str → Option Value} {base : Heap} {A : Ad}
theorem ok_melted (T : Txt K mg A) : FnOk P w K mg base CX0 1 A.f_melted A.d_melted ["water", "salt"] spMelted := by
  refine T.F_melted.ok sc_melted (fun vs H Q E h => ?_) (fun cdv Ar outer s H vs Q E hr h => ⟨_, pss_one (ps_ret (pe_callB (call_min2 rfl) (by rfl) T.bmin (by decide +kernel) (pa_cons (pv 1) (pa_cons (pe_op op_fdiv (pv 0) (pe_ci rfl T.kWATER_FOR_SALT)) pa_nil)))), ?_⟩)
  · obtain ⟨_, _, rfl, _⟩ := h
    rfl
  · obtain ⟨wa, sa, rfl, q⟩ := h
    refine st_ret (val_min2 (val_var rfl) (val_I (val_var rfl) val_c ⟨by decide, by decide⟩)) ?_
    show Q _ H
    have e : (if ((wa : Int) / 3) < (sa : Int) then ((wa : Int) / 3) else (sa : Int)) = ((Mu17.melted ⟨wa, sa⟩ : Nat) : Int) := min_nat sa (wa / 3)
    rw [e]
    exact q
theorem val_melted {σ : L2.St} {H : Hp} {ta tb : TE} {wa sa : Nat} (ha : Val ta σ H (.int wa)) (hb : Val tb σ H (.int sa)) : Val (tCall spMelted [] E0 (tCons ta (tCons tb tNil))) σ H (.int (Mu17.melted ⟨wa, sa⟩ : Nat)) := fun _ q =>
  ha _ (hb _ ⟨wa, sa, rfl, q⟩)
theorem melted_le (wa sa : Nat) : Mu17.melted ⟨wa, sa⟩ ≤ sa ∧ Mu17.melted ⟨wa, sa⟩ ≤ wa / 3 := by
  unfold Mu17.melted Mu17.HOLDS
  simp only []
  omega
theorem ok_share (T : Txt K mg A) : FnOk P w K mg base CX0 2 A.f_share A.d_share ["water", "salt", "goes"] spShare := by
  refine T.F_share.ok sc_share (fun vs H Q E h => ?_) (fun cdv Ar outer s H vs Q E hr h => ⟨_, pss_cons (ps_if (pt_cmpR op_eq (pv 0) pe_int (nomark _)) (pss_one (ps_ret pe_int)) pss_nil)
    (pss_one (ps_ret (pe_op op_fdiv (pe_op op_mul (pe_call (ok_melted T) hr rfl T.g_melted T.F_melted.kp T.b_melted .nil pass0 (pa_cons (pv 0) (pa_cons (pv 1) pa_nil))) (pv 2)) (pv 0)))), ?_⟩)
  · obtain ⟨_, _, _, rfl, _⟩ := h
    rfl
  · obtain ⟨wa, sa, go, rfl, hw, q⟩ := h
    have hm := melted_le wa sa
    by_cases h0 : wa = 0
    · subst h0
      exact st_yes (ans_eq (val_var rfl) val_c rfl (decide_eq_true rfl)) (st_ret val_c q)
    · refine st_no (ans_eq (b := false) (val_var rfl) val_c rfl (decide_eq_false fun z => h0 (by cases z; rfl))) (st_next ?_)
      dsimp only
      refine st_ret (val_I (val_I (val_melted (val_var rfl) (val_var rfl)) (val_var rfl) (by exact .inl ⟨by omega, by omega⟩)) (val_var rfl) (by exact ⟨by omega, by omega⟩)) ?_
      have e : ((Mu17.melted ⟨wa, sa⟩ : Nat) : Int) * (go : Int) / (wa : Int) = (shareN wa sa go : Nat) := by
        unfold shareN
        rw [if_neg h0, Int.natCast_ediv, Int.natCast_mul]
      show Q (V.int (((Mu17.melted ⟨wa, sa⟩ : Nat) : Int) * (go : Int) / (wa : Int))) H
      rw [e]
      exact q
theorem val_share {σ : L2.St} {H : Hp} {ta tb tc : TE} {wa sa go : Nat} (ha : Val ta σ H (.int wa)) (hb : Val tb σ H (.int sa)) (hc : Val tc σ H (.int go)) (hw : wa ≤ 100000) : Val (tCall spShare [] E0 (tCons ta (tCons tb (tCons tc tNil)))) σ H (.int (shareN wa sa go : Nat)) := fun _ q =>
  ha _ (hb _ (hc _ ⟨wa, sa, go, rfl, hw, q⟩))
end
/-! ### room, deeds, told, sums, pour -/
/-- room(i): also below 0, where there is too much water -/
def spRoom (A : Ad) : Sp := fun vs H Q _ => ∃ (Pa : PaA) (s : State) (i : Nat), vs = [.ref Pa.a, .int i] ∧ PansAt A.cPans A.cPlan H Pa s ∧ i < s.pans.length ∧ s.pans.length = s.works.pans.length ∧
  Q (.int (((Mu17.panOf s i).holds : Int) - ((Mu17.at_ s i).water : Int))) H
def spDeeds (A : Ad) : Sp := fun vs H Q _ => ∃ (Pa : PaA) (s : State), vs = [.ref Pa.a] ∧ PansAt A.cPans A.cPlan H Pa s ∧ Q (.int ((3 + s.pans.length : Nat) : Int)) H
def toldN (s : State) (i : Nat) : List Int := [((Mu17.at_ s i).water : Int), (Mu17.melted (Mu17.at_ s i) : Nat), (Mu17.fallen (Mu17.at_ s i) : Nat)]
def spTold (A : Ad) : Sp := fun vs H Q _ => ∃ (Pa : PaA) (s : State) (i : Nat), vs = [.ref Pa.a, .int i] ∧ PansAt A.cPans A.cPlan H Pa s ∧ i < s.pans.length ∧
  ∀ p, H p = none → Q (.ref p) (upd H p (.lst ((toldN s i).map V.int)))
def sumsN (s : State) : List Int := Mu17.nums [s.day, s.store, s.away, s.drawn, s.salted, (s.pans.map fun (b : Brine) => b.salt).foldl (fun (a b : Nat) => a + b) 0]
def spSums (A : Ad) : Sp := fun vs H Q _ => ∃ (Pa : PaA) (s : State), vs = [.ref Pa.a] ∧ PansAt A.cPans A.cPlan H Pa s ∧ ∀ p, H p = none → Q (.ref p) (upd H p (.lst ((sumsN s).map V.int)))
def pourN (s : State) (i wa n : Nat) : State := { s with pans := s.pans.set i ⟨(Mu17.at_ s i).water + wa, (Mu17.at_ s i).salt + n⟩, salted := s.salted + n }
def spPourM (A : Ad) : Sp := fun vs H Q _ => ∃ (Pa : PaA) (s : State) (i wa n : Nat), vs = [.ref Pa.a, .int i, .int wa, .int n] ∧ PansAt A.cPans A.cPlan H Pa s ∧ i < s.pans.length ∧
  ∀ H', PansAt A.cPans A.cPlan H' Pa (pourN s i wa n) → Keeps Pa.mine H H' → Q .non H'
theorem sum_nat : ∀ (l : List Nat) (a : Nat), (l.foldl (fun (a b : Nat) => a + b) a : Nat) = a + l.sum
  | [], a => by simp
  | x :: l, a => by rw [List.foldl_cons, sum_nat l]; simp; omega
theorem sum_int : ∀ (l : List Nat), (l.map fun (n : Nat) => (n : Int)).sum = ((l.sum : Nat) : Int)
  | [] => rfl
  | x :: l => by rw [List.map_cons, List.sum_cons, sum_int l, List.sum_cons]; omega
section
variable {P : Program} {w : World} {K : PySem.W.Frag} {mg : Str → Option Value} {base : Heap} {A : Ad}
theorem ok_room (T : Txt K mg A) : FnOk P w K mg base CX0 1 A.f_room A.d_room ["self", "i"] (spRoom A) := by
  refine T.F_room.ok sc_room (fun vs H Q E h => ?_) (fun cdv Ar outer s H vs Q E hr h => ⟨_, pss_one (ps_ret (pe_op op_sub
    (pe_ix ix_tup (pe_ix ix_list (pe_fld (pe_fld (pv 0) rfl) rfl) (pv 1) (fun _ _ => rfl)) pe_int (fun _ _ => rfl)) (pe_ix ix_list (pe_fld (pv 0) rfl) (pv 1) (fun _ _ => rfl)))), ?_⟩)
  · obtain ⟨_, _, _, rfl, _⟩ := h
    rfl
  · obtain ⟨Pa, s, i, rfl, hp, hi, hl, q⟩ := h
    exact st_ret (val_I0 (val_holds T hp (hl ▸ hi) (val_var rfl) (val_var rfl)) (val_water T hp hi (val_var rfl) (val_var rfl))) q
theorem val_room {σ : L2.St} {H : Hp} {to ti : TE} {Pa : PaA} {s : State} {i : Nat} (h : PansAt A.cPans A.cPlan H Pa s) (hi : i < s.pans.length) (hl : s.pans.length = s.works.pans.length) (ho : Val to σ H (.ref Pa.a)) (hx : Val ti σ H (.int i)) :
    Val (tMeth A.cPans "room" (spRoom A) [] E0 to (tCons ti tNil)) σ H (.int (((Mu17.panOf s i).holds : Int) - ((Mu17.at_ s i).water : Int))) := fun _ q =>
  ho _ ⟨Pa.a, Pa.dx, _, rfl, h.obj, pF_none _ _ (by decide +kernel), hx _ ⟨Pa, s, i, rfl, h, hi, hl, q⟩⟩
theorem ok_deeds (T : Txt K mg A) : FnOk P w K mg base CX0 1 A.f_deeds A.d_deeds ["self"] (spDeeds A) := by
  refine T.F_deeds.ok sc_deeds (fun vs H Q E h => ?_) (fun cdv Ar outer s H vs Q E hr h => ⟨_, pss_one (ps_ret (pe_op op_add (pe_ci rfl T.kFIRST_SLUICE)
    (pe_callB call_len_seq (by rfl) T.blen PySem.boot_len (pa_cons (pe_fld (pv 0) rfl) pa_nil)))), ?_⟩)
  · obtain ⟨_, _, rfl, _⟩ := h
    rfl
  · obtain ⟨Pa, s, rfl, hp, q⟩ := h
    refine st_ret (val_I0 val_c (val_lenW T hp (val_var rfl))) ?_
    exact q
theorem val_deeds {σ : L2.St} {H : Hp} {to : TE} {Pa : PaA} {s : State} (h : PansAt A.cPans A.cPlan H Pa s) (ho : Val to σ H (.ref Pa.a)) :
    Val (tMeth A.cPans "deeds" (spDeeds A) [] E0 to tNil) σ H (.int ((3 + s.pans.length : Nat) : Int)) := fun _ q =>
  ho _ ⟨Pa.a, Pa.dx, _, rfl, h.obj, pF_none _ _ (by decide +kernel), ⟨Pa, s, rfl, h, q⟩⟩
theorem ok_told (T : Txt K mg A) : FnOk P w K mg base CX0 2 A.f_told A.d_told ["self", "i"] (spTold A) := by
  refine T.F_told.ok sc_told (fun vs H Q E h => ?_) (fun cdv Ar outer s H vs Q E hr h => ⟨_, pss_cons (ps_set (i := 2) sc_told.nd rfl (Or.inl rfl)
      (pe_call (ok_melted T) hr rfl T.g_melted T.F_melted.kp T.b_melted .nil pass0 (pa_cons (pe_ix ix_list (pe_fld (pv 0) rfl) (pv 1) (fun _ _ => rfl)) (pa_cons (pe_ix ix_list (pe_fld (pv 0) rfl) (pv 1) (fun _ _ => rfl)) pa_nil))))
    (pss_one (ps_ret (pe_lst (pa_cons (pe_ix ix_list (pe_fld (pv 0) rfl) (pv 1) (fun _ _ => rfl)) (pa_cons (pv 2) (pa_cons (pe_op op_sub (pe_ix ix_list (pe_fld (pv 0) rfl) (pv 1) (fun _ _ => rfl)) (pv 2)) pa_nil)))))), ?_⟩)
  · obtain ⟨_, _, _, rfl, _⟩ := h
    rfl
  · obtain ⟨Pa, s, i, rfl, hp, hi, q⟩ := h
    refine st_set (val_melted (val_water T hp hi (val_var rfl) (val_var rfl)) (val_salt T hp hi (val_var rfl) (val_var rfl))) ?_
    refine val_water T hp hi (val_var rfl) (val_var rfl) _ (val_var rfl _ (val_I0 (val_salt T hp hi (val_var rfl) (val_var rfl)) (val_var rfl) _ ?_))
    refine ⟨by show 3 ≤ sizeLine; decide, fun p hn => ?_⟩
    have e : ((Mu17.at_ s i).salt : Int) - ((Mu17.melted ⟨(Mu17.at_ s i).water, (Mu17.at_ s i).salt⟩ : Nat) : Int) = ((Mu17.fallen (Mu17.at_ s i) : Nat) : Int) := by
      have := (melted_le (Mu17.at_ s i).water (Mu17.at_ s i).salt).1
      unfold Mu17.fallen
      show _ = (((Mu17.at_ s i).salt - Mu17.melted ⟨(Mu17.at_ s i).water, (Mu17.at_ s i).salt⟩ : Nat) : Int)
      omega
    rw [e]
    exact q p hn
theorem ok_sums (T : Txt K mg A) : FnOk P w K mg base CX0 1 A.f_sums A.d_sums ["self"] (spSums A) := by
  refine T.F_sums.ok sc_sums (fun vs H Q E h => ?_) (fun cdv Ar outer s H vs Q E hr h => ⟨_, pss_one (ps_ret (pe_lst (pa_cons (pe_fld (pv 0) rfl) (pa_cons (pe_fld (pv 0) rfl) (pa_cons (pe_fld (pv 0) rfl) (pa_cons (pe_fld (pv 0) rfl) (pa_cons (pe_fld (pv 0) rfl)
    (pa_cons (pe_callB (cr_sum rfl) (by rfl) T.bsum (by decide +kernel) (pa_cons (pe_fld (pv 0) rfl) pa_nil)) pa_nil)))))))), ?_⟩)
  · obtain ⟨_, _, rfl, _⟩ := h
    rfl
  · obtain ⟨Pa, s, rfl, hp, q⟩ := h
    have e : salts s = ((s.pans.map fun b => (b.salt : Nat)).map fun (n : Nat) => (n : Int)).map V.int := by
      unfold salts
      rw [List.map_map, List.map_map]
      rfl
    have hsum : Val (tCB (rSum K) (tCons (tFld K (tVar 0) "salt") tNil)) (start ["self"] [.ref Pa.a]) H (.int ((s.pans.map fun b => (b.salt : Nat)).map fun (n : Nat) => (n : Int)).sum) := fun _ z =>
      val_sl T hp (val_var rfl) _ ⟨Pa.sl, _, rfl, by rw [← e]; exact SqL.of hp.ls, z⟩
    refine st_retL (va_cons (val_gone T hp (val_var rfl)) (va_cons (val_store T hp (val_var rfl)) (va_cons (val_away T hp (val_var rfl)) (va_cons (val_drawn T hp (val_var rfl)) (va_cons (val_came T hp (val_var rfl)) (va_cons hsum va_nil)))))) (by show 6 ≤ 1000; decide) fun p hn => ?_
    rw [sum_int]
    have q' := q p hn
    unfold sumsN Mu17.nums at q'
    rw [sum_nat, Nat.zero_add] at q'
    exact q'
theorem ok_pPour (T : Txt K mg A) : FnOk P w K mg base CX0 1 A.f_pPour A.d_pPour ["self", "i", "water", "salt"] (spPourM A) := by
  refine T.F_pPour.ok sc_pPour (fun vs H Q E h => ?_) (fun cdv Ar outer s H vs Q E hr h => ⟨_, pss_cons (ps_augS (pe_fld (pv 0) rfl) (pv 1) get_list (pv 2) ip_add set_list)
    (pss_cons (ps_augS (pe_fld (pv 0) rfl) (pv 1) get_list (pv 3) ip_add set_list) (pss_one (ps_fldaug (pv 0) (pv 3) in_add))), ?_⟩)
  · obtain ⟨_, _, _, _, _, rfl, _⟩ := h
    rfl
  · obtain ⟨Pa, s, i, wa, n, rfl, hp, hi, q⟩ := h
    refine st_augW (w := (Mu17.at_ s i).water + wa) T hp hi (val_var rfl) (val_var rfl) (val_var rfl) (by simp) fun H1 hp1 k1 => ?_
    have hi1 : i < (setW s i ((Mu17.at_ s i).water + wa)).pans.length := by rw [setW_len]; exact hi
    have hs1 : (Mu17.at_ (setW s i ((Mu17.at_ s i).water + wa)) i).salt = (Mu17.at_ s i).salt := by rw [setW_at s hi, if_pos rfl]
    refine st_augS (w := (Mu17.at_ s i).salt + n) T hp1 hi1 (val_var rfl) (val_var rfl) (val_var rfl) (by rw [hs1]; simp) fun H2 hp2 k2 => ?_
    refine st_augF (s' := pourN s i wa n) T hp2 T.nPans_came (pF_came _ _) (val_var rfl) (val_var rfl) ?_ ?_ rfl fun H3 hp3 k3 => ?_
    · show putF "came" (.int ((s.salted : Int) + (n : Int))) _ = _
      rw [← Int.natCast_add]
      exact (put_came _ _).trans rfl
    · show s.pans.set i _ = (List.set (List.set s.pans i _) i _)
      rw [List.set_set, setW_at s hi, if_pos rfl]
    · exact q H3 hp3 ((k1.trans k2).trans k3)
end
end Sal
namespace Sal
open PySem PySem.Spec PyProof.Rows L2
open Mu17 (Works State Brine Deed Pan Day)
/-! ### a list changed from its front on -/
def mix {α : Type} (m l : List α) (k : Nat) : List α := m.take k ++ l.drop k
section
variable {α : Type} {m l : List α} {k : Nat}
theorem mix_zero : mix m l 0 = l := by simp [mix]
theorem mix_full (h : m.length = l.length) : mix m l l.length = m := by unfold mix; rw [List.drop_length, List.append_nil, ← h, List.take_length]
theorem mix_len (h : m.length = l.length) : (mix m l k).length = l.length := by unfold mix; rw [List.length_append, List.length_take, List.length_drop]; omega
theorem mix_at (h : m.length = l.length) (hk : k < l.length) : (mix m l k)[k]? = l[k]? := by
  unfold mix
  rw [List.getElem?_append_right (by rw [List.length_take]; omega), List.length_take, List.getElem?_drop]
  congr 1; omega
theorem mix_step {y : α} (h : m.length = l.length) (hk : m[k]? = some y) : (mix m l k).set k y = mix m l (k + 1) := by
  obtain ⟨hlt, hy⟩ := List.getElem?_eq_some_iff.mp hk
  apply List.ext_getElem?
  intro j
  rw [List.getElem?_set]
  have hl : (mix m l k).length = l.length := mix_len h
  by_cases hj : k = j
  · subst hj
    rw [if_pos rfl, if_pos (by rw [hl]; omega)]
    unfold mix
    rw [List.getElem?_append_left (by rw [List.length_take]; omega), List.getElem?_take, if_pos (by omega), hk]
  · rw [if_neg hj]
    unfold mix
    by_cases hlt2 : j < k
    · rw [List.getElem?_append_left (by rw [List.length_take]; omega), List.getElem?_append_left (by rw [List.length_take]; omega), List.getElem?_take, List.getElem?_take, if_pos hlt2, if_pos (by omega)]
    · rw [List.getElem?_append_right (by rw [List.length_take]; omega), List.getElem?_append_right (by rw [List.length_take]; omega), List.length_take, List.length_take, List.getElem?_drop, List.getElem?_drop]
      congr 1; omega
end
theorem foldl_add_more {l : List Nat} {k x : Nat} (h : l[k]? = some x) : (l.take (k + 1)).foldl (fun (a b : Nat) => a + b) 0 = (l.take k).foldl (fun (a b : Nat) => a + b) 0 + x := by
  rw [List.take_succ, h, List.foldl_append]
  rfl
/-! ### rake -/
def rk (b : Brine) : Brine := ⟨b.water, Mu17.melted b⟩
def rakeUp (s : State) (k : Nat) : State := { s with pans := mix (s.pans.map rk) s.pans k, store := s.store + ((s.pans.map Mu17.fallen).take k).foldl (fun (a b : Nat) => a + b) 0 }
theorem rakeUp_zero (s : State) : rakeUp s 0 = s := by
  unfold rakeUp
  rw [mix_zero]
  rfl
theorem rakeUp_full (s : State) : rakeUp s s.pans.length = Mu17.deed s .rake := by
  unfold rakeUp Mu17.deed
  rw [mix_full (List.length_map _), List.take_of_length_le (by rw [List.length_map]; exact Nat.le_refl _)]
  rfl
theorem rakeUp_len (s : State) (k : Nat) : (rakeUp s k).pans.length = s.pans.length := mix_len (List.length_map _)
theorem rakeUp_at (s : State) {k : Nat} (h : k < s.pans.length) : Mu17.at_ (rakeUp s k) k = Mu17.at_ s k := at_some ((mix_at (List.length_map _) h).trans (at_get h))
theorem rakeUp_step (s : State) {k : Nat} (h : k < s.pans.length) : setS { rakeUp s k with store := (rakeUp s k).store + Mu17.fallen (Mu17.at_ s k) } k (Mu17.melted (Mu17.at_ s k)) = rakeUp s (k + 1) := by
  have e1 : Mu17.at_ { rakeUp s k with store := (rakeUp s k).store + Mu17.fallen (Mu17.at_ s k) } k = Mu17.at_ s k := rakeUp_at s h
  unfold setS
  rw [e1]
  have e2 : (mix (s.pans.map rk) s.pans k).set k ⟨(Mu17.at_ s k).water, Mu17.melted (Mu17.at_ s k)⟩ = mix (s.pans.map rk) s.pans (k + 1) := mix_step (List.length_map _) (by rw [List.getElem?_map, at_get h]; rfl)
  have e3 : ((s.pans.map Mu17.fallen).take (k + 1)).foldl (fun (a b : Nat) => a + b) 0 = ((s.pans.map Mu17.fallen).take k).foldl (fun (a b : Nat) => a + b) 0 + Mu17.fallen (Mu17.at_ s k) := foldl_add_more (by rw [List.getElem?_map, at_get h]; rfl)
  unfold rakeUp
  rw [e3]
  show ({ s with pans := (mix (s.pans.map rk) s.pans k).set k ⟨(Mu17.at_ s k).water, Mu17.melted (Mu17.at_ s k)⟩, store := s.store + _ + _ } : State) = _
  rw [e2, Nat.add_assoc]
/-! ### a day's rain, the sun -/
def rainN (s : State) (i n : Nat) : State :=
  { s with pans := s.pans.set i ⟨(Mu17.at_ s i).water + n - ((Mu17.at_ s i).water + n - (Mu17.panOf s i).holds), (Mu17.at_ s i).salt - shareN ((Mu17.at_ s i).water + n) (Mu17.at_ s i).salt ((Mu17.at_ s i).water + n - (Mu17.panOf s i).holds)⟩,
           away := s.away + shareN ((Mu17.at_ s i).water + n) (Mu17.at_ s i).salt ((Mu17.at_ s i).water + n - (Mu17.panOf s i).holds) }
def wz (s : State) : List (Brine × Nat) := List.zipWith (Mu17.weather (Mu17.dayOf s)) s.works.pans s.pans
theorem wz_len (s : State) (h : s.pans.length = s.works.pans.length) : ((wz s).map (·.1)).length = s.pans.length := by
  unfold wz; rw [List.length_map, List.length_zipWith]; omega
theorem wz_at (s : State) (h : s.pans.length = s.works.pans.length) {k : Nat} (hk : k < s.pans.length) : (wz s)[k]? = some (Mu17.weather (Mu17.dayOf s) (Mu17.panOf s k) (Mu17.at_ s k)) := by
  unfold wz
  rw [List.getElem?_zipWith, at_get hk, pan_get (h ▸ hk)]
def weaUp (s : State) (k : Nat) : State := { s with pans := mix ((wz s).map (·.1)) s.pans k, away := s.away + (((wz s).map (·.2)).take k).foldl (fun (a b : Nat) => a + b) 0 }
theorem weaUp_zero (s : State) : weaUp s 0 = s := by
  unfold weaUp
  rw [mix_zero]
  rfl
theorem weaUp_full (s : State) (h : s.pans.length = s.works.pans.length) : { weaUp s s.pans.length with day := s.day + 1 } = Mu17.pass s := by
  unfold weaUp Mu17.pass
  rw [mix_full (wz_len s h), List.take_of_length_le (by have := wz_len s h; rw [List.length_map] at this ⊢; omega)]
  rfl
theorem weaUp_len (s : State) (h : s.pans.length = s.works.pans.length) (k : Nat) : (weaUp s k).pans.length = s.pans.length := mix_len (wz_len s h)
theorem weaUp_at (s : State) (h : s.pans.length = s.works.pans.length) {k : Nat} (hk : k < s.pans.length) : Mu17.at_ (weaUp s k) k = Mu17.at_ s k := at_some ((mix_at (wz_len s h) hk).trans (at_get hk))
theorem weather_share (d : Day) (p : Pan) (b : Brine) : Mu17.weather d p b =
    (⟨b.water + d.rain * p.area - (b.water + d.rain * p.area - p.holds) - min (b.water + d.rain * p.area - (b.water + d.rain * p.area - p.holds)) (d.sun * p.area), b.salt - shareN (b.water + d.rain * p.area) b.salt (b.water + d.rain * p.area - p.holds)⟩, shareN (b.water + d.rain * p.area) b.salt (b.water + d.rain * p.area - p.holds)) := by
  unfold Mu17.weather shareN Mu17.melted
  simp only []
  rw [Nat.mul_comm d.rain p.area, Nat.mul_comm d.sun p.area]
  refine Prod.ext ?_ rfl
  show (⟨_, _⟩ : Brine) = ⟨_, _⟩
  congr 1
  omega
theorem weaUp_step (s : State) (h : s.pans.length = s.works.pans.length) {k : Nat} (hk : k < s.pans.length) :
    setW (rainN (weaUp s k) k ((Mu17.dayOf s).rain * (Mu17.panOf s k).area)) k ((Mu17.at_ (rainN (weaUp s k) k ((Mu17.dayOf s).rain * (Mu17.panOf s k).area)) k).water - min (Mu17.at_ (rainN (weaUp s k) k ((Mu17.dayOf s).rain * (Mu17.panOf s k).area)) k).water ((Mu17.dayOf s).sun * (Mu17.panOf s k).area)) = weaUp s (k + 1) := by
  have e0 : Mu17.at_ (weaUp s k) k = Mu17.at_ s k := weaUp_at s h hk
  have ep : Mu17.panOf (weaUp s k) k = Mu17.panOf s k := rfl
  have hl : k < (weaUp s k).pans.length := by rw [weaUp_len s h]; exact hk
  have ew := weather_share (Mu17.dayOf s) (Mu17.panOf s k) (Mu17.at_ s k)
  have ez := wz_at s h hk
  generalize Mu17.weather (Mu17.dayOf s) (Mu17.panOf s k) (Mu17.at_ s k) = x at ew ez
  have er : Mu17.at_ (rainN (weaUp s k) k ((Mu17.dayOf s).rain * (Mu17.panOf s k).area)) k = ⟨(Mu17.at_ s k).water + (Mu17.dayOf s).rain * (Mu17.panOf s k).area - ((Mu17.at_ s k).water + (Mu17.dayOf s).rain * (Mu17.panOf s k).area - (Mu17.panOf s k).holds), (Mu17.at_ s k).salt - shareN ((Mu17.at_ s k).water + (Mu17.dayOf s).rain * (Mu17.panOf s k).area) (Mu17.at_ s k).salt ((Mu17.at_ s k).water + (Mu17.dayOf s).rain * (Mu17.panOf s k).area - (Mu17.panOf s k).holds)⟩ := by
    unfold rainN
    rw [e0, ep]
    refine (set_at (l := (weaUp s k).pans) (s := { weaUp s k with away := _ }) (i := k) (j := k) hl).trans (if_pos rfl)
  unfold setW
  rw [er]
  have e2 : (mix ((wz s).map (·.1)) s.pans k).set k x.1 = mix ((wz s).map (·.1)) s.pans (k + 1) := mix_step (wz_len s h) (by rw [List.getElem?_map, ez]; rfl)
  have e3 : (((wz s).map (·.2)).take (k + 1)).foldl (fun (a b : Nat) => a + b) 0 = (((wz s).map (·.2)).take k).foldl (fun (a b : Nat) => a + b) 0 + x.2 := foldl_add_more (by rw [List.getElem?_map, ez]; rfl)
  unfold rainN
  rw [e0, ep]
  unfold weaUp
  rw [e3, ← e2, ew]
  simp only [List.set_set, Nat.add_assoc]
/-! ### the promises -/
/-- a method that changes the pans by g -/
def spDoes (A : Ad) (g : State → State) : Sp := fun vs H Q _ => ∃ (Pa : PaA) (s : State), vs = [.ref Pa.a] ∧ PansAt A.cPans A.cPlan H Pa s ∧ WF s ∧ ∀ H', PansAt A.cPans A.cPlan H' Pa (g s) → Keeps Pa.mine H H' → Q .non H'
def spSluice (A : Ad) : Sp := fun vs H Q _ => ∃ (Pa : PaA) (s : State) (i : Nat), vs = [.ref Pa.a, .int i] ∧ PansAt A.cPans A.cPlan H Pa s ∧ WF s ∧ i < s.pans.length ∧ ∀ H', PansAt A.cPans A.cPlan H' Pa (Mu17.flow s i) → Keeps Pa.mine H H' → Q .non H'
def spRain (A : Ad) : Sp := fun vs H Q _ => ∃ (Pa : PaA) (s : State) (i n : Nat), vs = [.ref Pa.a, .int i, .int n] ∧ PansAt A.cPans A.cPlan H Pa s ∧ i < s.pans.length ∧ s.pans.length = s.works.pans.length ∧ (Mu17.at_ s i).water + n ≤ 100000 ∧
  ∀ H', PansAt A.cPans A.cPlan H' Pa (rainN s i n) → Keeps Pa.mine H H' → Q .non H'
def spDay (A : Ad) : Sp := fun vs H Q _ => ∃ (Pa : PaA) (s : State) (d : Nat), vs = [.ref Pa.a, .int d] ∧ PansAt A.cPans A.cPlan H Pa s ∧ WF s ∧ d < 3 + s.pans.length ∧ ∀ H', PansAt A.cPans A.cPlan H' Pa (Mu17.live s (Mu17.deedOf d)) → Keeps Pa.mine H H' → Q .non H'
theorem share_le (wa sa go : Nat) (h : go ≤ wa) : shareN wa sa go ≤ sa := by
  unfold shareN
  split
  · exact Nat.zero_le _
  · have h1 := (melted_le wa sa).1
    refine Nat.le_trans (Nat.div_le_of_le_mul ?_) h1
    rw [Nat.mul_comm]
    exact Nat.mul_le_mul_right _ h
section
variable {P : Program} {w : World} {K : PySem.W.Frag} {mg : Str → Option Value} {base : Heap} {A : Ad}
theorem ok_fill (T : Txt K mg A) : FnOk P w K mg base CX0 2 A.f_fill A.d_fill ["self"] (spDoes A fun s => Mu17.deed s .fill) := by
  refine T.F_fill.ok sc_fill (fun vs H Q E h => ?_) (fun cdv Ar outer s H vs Q E hr h => ⟨_, pss_cons (ps_set (i := 1) sc_fill.nd rfl (Or.inl rfl) (pe_meth (pv 0) T.clPans T.m_room (ok_room T) hr T.b_room .nil pass0 (pa_cons pe_int pa_nil)))
    (pss_cons (ps_set (i := 2) sc_fill.nd rfl (Or.inl rfl) (pe_op op_fdiv (pv 1) (pe_fld (pe_fld (pv 0) rfl) rfl)))
    (pss_cons (ps_augS (pe_fld (pv 0) rfl) pe_int get_list (pv 1) ip_add set_list)
    (pss_cons (ps_augS (pe_fld (pv 0) rfl) pe_int get_list (pv 2) ip_add set_list)
    (pss_cons (ps_fldaug (pv 0) (pv 1) in_add) (pss_one (ps_fldaug (pv 0) (pv 2) in_add)))))), ?_⟩)
  · obtain ⟨_, _, rfl, _⟩ := h
    rfl
  · obtain ⟨Pa, s, rfl, hp, wf, q⟩ := h
    have h0 : 0 < s.pans.length := by have := wf.p1; have := wf.ln; omega
    obtain ⟨N, hN⟩ := wf.se
    have hNb := wf.wk.sb N hN
    have hsea : Mu17.sea s = N := by unfold Mu17.sea; rw [hN]; rfl
    have hwl := wf.wl 0
    generalize hn : (Mu17.panOf s 0).holds - (Mu17.at_ s 0).water = n
    have em : (((Mu17.panOf s 0).holds : Int) - ((Mu17.at_ s 0).water : Int)) = (n : Int) := by omega
    have ed : ((n : Int) / (N : Int)) = ((n / N : Nat) : Int) := (Int.natCast_ediv n N).symm
    refine st_set (val_to (val_room (i := 0) hp h0 wf.ln (val_var rfl) val_c) (congrArg V.int em)) ?_
    refine st_set (val_to (val_I (val_var rfl) (val_sea T hp hN (val_var rfl)) (by exact ⟨by omega, by omega⟩)) (congrArg V.int ed)) ?_
    refine st_augW (i := 0) (w := (Mu17.at_ s 0).water + n) T hp h0 (val_var rfl) val_c (val_var rfl) (by simp) fun H1 hp1 k1 => ?_
    have hi1 : 0 < (setW s 0 ((Mu17.at_ s 0).water + n)).pans.length := by rw [setW_len]; exact h0
    have hs1 : (Mu17.at_ (setW s 0 ((Mu17.at_ s 0).water + n)) 0).salt = (Mu17.at_ s 0).salt := by rw [setW_at s h0, if_pos rfl]
    refine st_augS (i := 0) (w := (Mu17.at_ s 0).salt + n / N) T hp1 hi1 (val_var rfl) val_c (val_var rfl) (by rw [hs1]; simp) fun H2 hp2 k2 => ?_
    generalize hs2 : setS (setW s 0 ((Mu17.at_ s 0).water + n)) 0 ((Mu17.at_ s 0).salt + n / N) = s2 at hp2
    refine st_augF (s' := { s2 with drawn := s2.drawn + n }) T hp2 T.nPans_drawn (pF_drawn _ _) (val_var rfl) (val_var rfl) ?_ rfl rfl fun H3 hp3 k3 => ?_
    · rw [← Int.natCast_add]
      exact put_drawn _ _
    refine st_augF (s' := { s2 with drawn := s2.drawn + n, salted := s2.salted + n / N }) T hp3 T.nPans_came (pF_came _ _) (val_var rfl) (val_var rfl) ?_ rfl rfl fun H4 hp4 k4 => ?_
    · rw [← Int.natCast_add]
      exact put_came _ _
    · refine q H4 ?_ (((k1.trans k2).trans k3).trans k4)
      have e : Mu17.deed s .fill = { s2 with drawn := s2.drawn + n, salted := s2.salted + n / N } := by
        rw [← hs2]
        unfold Mu17.deed
        simp only [hn, hsea]
        unfold setS
        rw [setW_at s h0, if_pos rfl]
        unfold setW
        simp only [List.set_set]
      show PansAt _ _ H4 Pa (Mu17.deed s .fill)
      rw [e]
      exact hp4
theorem ok_rake (T : Txt K mg A) : FnOk P w K mg base CX0 2 A.f_rake A.d_rake ["self"] (spDoes A fun s => Mu17.deed s .rake) := by
  refine T.F_rake.ok sc_rake (fun vs H Q E h => ?_) (fun cdv Ar outer s H vs Q E hr h => ⟨_, pss_one (ps_for PassesOwn.never rfl (pi_range1 rfl T.brange (pa_cons (pe_callB call_len_seq (by rfl) T.blen PySem.boot_len (pa_cons (pe_fld (pv 0) rfl) pa_nil)) pa_nil)) (pg_name (i := 1) sc_rake.nd rfl (Or.inl rfl))
    (pss_cons (ps_set (i := 2) sc_rake.nd rfl (Or.inl rfl) (pe_call (ok_melted T) hr rfl T.g_melted T.F_melted.kp T.b_melted .nil pass0 (pa_cons (pe_ix ix_list (pe_fld (pv 0) rfl) (pv 1) (fun _ _ => rfl)) (pa_cons (pe_ix ix_list (pe_fld (pv 0) rfl) (pv 1) (fun _ _ => rfl)) pa_nil))))
    (pss_cons (ps_fldaug (pv 0) (pe_op op_sub (pe_ix ix_list (pe_fld (pv 0) rfl) (pv 1) (fun _ _ => rfl)) (pv 2)) in_add)
    (pss_one (ps_asg (pv 2) (pg_sub (pe_fld (pv 0) rfl) (pv 1) set_list)))))), ?_⟩)
  · obtain ⟨_, _, rfl, _⟩ := h
    rfl
  · obtain ⟨Pa, s, rfl, hp, wf, q⟩ := h
    have h3 : s.pans.length ≤ 3 := by have := wf.wk.np; have := wf.ln; omega
    refine st_forR (n := s.pans.length) (val_lenW T hp (val_var rfl)) (by omega) (fun i σ H' => ∃ v u : Option V, σ = [some (.ref Pa.a), v, u] ∧ PansAt A.cPans A.cPlan H' Pa (rakeUp s i) ∧ Keeps Pa.mine H H')
      ⟨none, none, rfl, by rw [rakeUp_zero]; exact hp, Keeps.refl⟩ ?_ ?_
    · rintro i σ H1 hi ⟨v, u, rfl, hp1, k1⟩
      have hi1 : i < (rakeUp s i).pans.length := by rw [rakeUp_len]; exact hi
      have hat := rakeUp_at s hi
      refine st_set (val_melted (val_water T hp1 hi1 (val_var rfl) (val_var rfl)) (val_salt T hp1 hi1 (val_var rfl) (val_var rfl))) ?_
      rw [hat]
      have hm := (melted_le (Mu17.at_ s i).water (Mu17.at_ s i).salt).1
      refine st_augF (x := (rakeUp s i).store) (s' := { rakeUp s i with store := (rakeUp s i).store + Mu17.fallen (Mu17.at_ s i) }) T hp1 T.nPans_store (pF_store _ _) (val_var rfl) (val_I0 (val_salt T hp1 hi1 (val_var rfl) (val_var rfl)) (val_var rfl)) ?_ rfl rfl fun H2 hp2 k2 => ?_
      · have e : ((rakeUp s i).store : Int) + (((Mu17.at_ (rakeUp s i) i).salt : Int) - ((Mu17.melted ⟨(Mu17.at_ s i).water, (Mu17.at_ s i).salt⟩ : Nat) : Int)) = (((rakeUp s i).store + Mu17.fallen (Mu17.at_ s i) : Nat) : Int) := by
          rw [hat]
          show _ = (((rakeUp s i).store + ((Mu17.at_ s i).salt - Mu17.melted ⟨(Mu17.at_ s i).water, (Mu17.at_ s i).salt⟩) : Nat) : Int)
          omega
        rw [e]
        exact put_store _ _
      · refine st_setS (i := i) (w := Mu17.melted (Mu17.at_ s i)) T hp2 hi1 (val_var rfl) (val_var rfl) (val_var rfl) fun H3 hp3 k3 => ?_
        rw [rakeUp_step s hi] at hp3
        exact ⟨_, _, rfl, hp3, (k1.trans k2).trans k3⟩
    · rintro σ H1 ⟨v, u, rfl, hp1, k1⟩
      rw [rakeUp_full] at hp1
      exact q H1 hp1 k1
end
end Sal
namespace Sal
open PySem PySem.Spec PyProof.Rows L2
open Mu17 (Works State Brine Deed Pan Day)
theorem flow_last {s : State} {i n : Nat} (h : i + 1 = s.pans.length) (hn : n = (Mu17.at_ s i).water) : Mu17.flow s i = { s with pans := s.pans.set i ⟨(Mu17.at_ s i).water - n, (Mu17.at_ s i).salt - shareN (Mu17.at_ s i).water (Mu17.at_ s i).salt n⟩, away := s.away + shareN (Mu17.at_ s i).water (Mu17.at_ s i).salt n } := by
  subst hn
  unfold Mu17.flow shareN
  simp only [decide_eq_true h, if_true]
theorem flow_next {s : State} {i n : Nat} (h : ¬ i + 1 = s.pans.length) (hn : n = min (Mu17.at_ s i).water ((Mu17.panOf s (i + 1)).holds - (Mu17.at_ s (i + 1)).water)) : Mu17.flow s i = { s with pans := (s.pans.set i ⟨(Mu17.at_ s i).water - n, (Mu17.at_ s i).salt - shareN (Mu17.at_ s i).water (Mu17.at_ s i).salt n⟩).set (i + 1) ⟨(Mu17.at_ s (i + 1)).water + n, (Mu17.at_ s (i + 1)).salt + shareN (Mu17.at_ s i).water (Mu17.at_ s i).salt n⟩ } := by
  subst hn
  unfold Mu17.flow shareN
  simp only [decide_eq_false h, Bool.false_eq_true, if_false]
section
variable {P : Program} {w : World} {K : PySem.W.Frag} {mg : Str → Option Value} {base : Heap} {A : Ad}
theorem ok_sluice (T : Txt K mg A) : FnOk P w K mg base CX0 3 A.f_sluice A.d_sluice ["self", "i"] (spSluice A) := by
  refine T.F_sluice.ok sc_sluice (fun vs H Q E h => ?_) (fun cdv Ar outer s H vs Q E hr h => ⟨_, pss_cons (ps_set (i := 2) sc_sluice.nd rfl (Or.inl rfl) (pe_cmpR op_eq (pv 1) (pe_op op_sub (pe_callB call_len_seq (by rfl) T.blen PySem.boot_len (pa_cons (pe_fld (pv 0) rfl) pa_nil)) pe_int) (nomark _)))
    (pss_cons (ps_set (i := 3) sc_sluice.nd rfl (Or.inl rfl) (pe_ix ix_list (pe_fld (pv 0) rfl) (pv 1) (fun _ _ => rfl)))
    (pss_cons (ps_if (pt_not (pt_val (pv 2))) (pss_one (ps_set (i := 3) sc_sluice.nd rfl (Or.inl rfl) (pe_callB (call_min2 rfl) (by rfl) T.bmin (by decide +kernel) (pa_cons (pv 3) (pa_cons (pe_meth (pv 0) T.clPans T.m_room (ok_room T) (hr.mono (by decide)) T.b_room .nil pass0 (pa_cons (pe_op op_add (pv 1) pe_int) pa_nil)) pa_nil))))) pss_nil)
    (pss_cons (ps_set (i := 4) sc_sluice.nd rfl (Or.inl rfl) (pe_call (ok_share T) hr rfl T.g_share T.F_share.kp T.b_share .nil pass0 (pa_cons (pe_ix ix_list (pe_fld (pv 0) rfl) (pv 1) (fun _ _ => rfl)) (pa_cons (pe_ix ix_list (pe_fld (pv 0) rfl) (pv 1) (fun _ _ => rfl)) (pa_cons (pv 3) pa_nil)))))
    (pss_cons (ps_augS (pe_fld (pv 0) rfl) (pv 1) get_list (pv 3) ip_sub set_list)
    (pss_cons (ps_augS (pe_fld (pv 0) rfl) (pv 1) get_list (pv 4) ip_sub set_list)
    (pss_one (ps_if (pt_val (pv 2)) (pss_one (ps_fldaug (pv 0) (pv 4) in_add))
      (pss_cons (ps_augS (pe_fld (pv 0) rfl) (pe_op op_add (pv 1) pe_int) get_list (pv 3) ip_add set_list)
        (pss_one (ps_augS (pe_fld (pv 0) rfl) (pe_op op_add (pv 1) pe_int) get_list (pv 4) ip_add set_list)))))))))), ?_⟩)
  · obtain ⟨_, _, _, rfl, _⟩ := h
    rfl
  · obtain ⟨Pa, s, i, rfl, hp, wf, hi, q⟩ := h
    have hb := wf.pb hi
    have hwl := wf.wl i
    have hlen : s.pans.length ≤ 3 := by have := wf.wk.np; have := wf.ln; omega
    generalize hla : decide (i + 1 = s.pans.length) = last
    refine st_set (val_eqI (b := last) (val_var rfl) (val_I0 (val_lenW T hp (val_var rfl)) val_c) ?_) ?_
    · rw [← hla]
      by_cases e : i + 1 = s.pans.length
      · rw [decide_eq_true e]; exact decide_eq_true (by omega)
      · rw [decide_eq_false e]; exact decide_eq_false (by omega)
    refine st_set (val_water T hp hi (val_var rfl) (val_var rfl)) ?_
    -- how much goes
    suffices main : ∀ n : Nat, n ≤ (Mu17.at_ s i).water → (last = true → n = (Mu17.at_ s i).water) → (last = false → n = min (Mu17.at_ s i).water ((Mu17.panOf s (i + 1)).holds - (Mu17.at_ s (i + 1)).water)) →
        tSeq (tAsg (tCall spShare [] E0 (tCons (tOp (rIxL K) (tFld K (tVar 0) "water") (tVar 1)) (tCons (tOp (rIxL K) (tFld K (tVar 0) "salt") (tVar 1)) (tCons (tVar 3) tNil)))) (gName 4))
          (tSeq (tAugS (tFld K (tVar 0) "water") (tVar 1) (tVar 3) (rIxL K) (ipI fun i j => i - j) rSetL)
          (tSeq (tAugS (tFld K (tVar 0) "salt") (tVar 1) (tVar 4) (rIxL K) (ipI fun i j => i - j) rSetL)
          (tIfS (tB (tVar 2)) (sFldAug K (tVar 0) (tVar 4) L2.rAdd "away")
            (tSeq (tAugS (tFld K (tVar 0) "water") (tOp (rI0 fun i j => .int (i + j)) (tVar 1) (tC (.int 1))) (tVar 3) (rIxL K) (ipI fun i j => i + j) rSetL)
              (tAugS (tFld K (tVar 0) "salt") (tOp (rI0 fun i j => .int (i + j)) (tVar 1) (tC (.int 1))) (tVar 4) (rIxL K) (ipI fun i j => i + j) rSetL)))))
          { nx := fun _ H' => Q .non H', rt := Q } [some (.ref Pa.a), some (.int i), some (.bl last), some (.int n), none] H by
      refine st_if (b := !last) (ans_not (ans_val (val_var rfl))) (fun e => ?_) (fun e => ?_)
      · have el : last = false := by cases last <;> simp_all
        have hne : ¬ i + 1 = s.pans.length := by intro z; rw [decide_eq_true z] at hla; rw [← hla] at el; cases el
        have hi1 : i + 1 < s.pans.length := by omega
        have hw1 := wf.wl (i + 1)
        refine st_set (val_to (val_min2 (val_var rfl) (val_room (i := i + 1) hp hi1 wf.ln (val_var rfl) (val_to (val_I0 (val_var rfl) val_c) (congrArg V.int (by omega))))) (v' := .int ((min (Mu17.at_ s i).water ((Mu17.panOf s (i + 1)).holds - (Mu17.at_ s (i + 1)).water) : Nat) : Int)) ?_) ?_
        · refine congrArg V.int ?_
          rw [← min_nat]
          have : (((Mu17.panOf s (i + 1)).holds : Int) - ((Mu17.at_ s (i + 1)).water : Int)) = (((Mu17.panOf s (i + 1)).holds - (Mu17.at_ s (i + 1)).water : Nat) : Int) := by omega
          rw [this]
        · exact main _ (Nat.min_le_left _ _) (fun z => by rw [el] at z; cases z) (fun _ => rfl)
      · have el : last = true := by cases last <;> simp_all
        exact main _ (Nat.le_refl _) (fun _ => rfl) (fun z => by rw [el] at z; cases z)
    intro n hn hL hN
    have hsh := share_le (Mu17.at_ s i).water (Mu17.at_ s i).salt n hn
    refine st_set (val_share (val_water T hp hi (val_var rfl) (val_var rfl)) (val_salt T hp hi (val_var rfl) (val_var rfl)) (val_var rfl) (by omega)) ?_
    generalize hm : shareN (Mu17.at_ s i).water (Mu17.at_ s i).salt n = m at hsh ⊢
    refine st_augW (w := (Mu17.at_ s i).water - n) T hp hi (val_var rfl) (val_var rfl) (val_var rfl) (by omega) fun H1 hp1 k1 => ?_
    have hi1 : i < (setW s i ((Mu17.at_ s i).water - n)).pans.length := by rw [setW_len]; exact hi
    have hs1 : (Mu17.at_ (setW s i ((Mu17.at_ s i).water - n)) i).salt = (Mu17.at_ s i).salt := by rw [setW_at s hi, if_pos rfl]
    refine st_augS (w := (Mu17.at_ s i).salt - m) T hp1 hi1 (val_var rfl) (val_var rfl) (val_var rfl) (by rw [hs1]; omega) fun H2 hp2 k2 => ?_
    have e2 : setS (setW s i ((Mu17.at_ s i).water - n)) i ((Mu17.at_ s i).salt - m) = { s with pans := s.pans.set i ⟨(Mu17.at_ s i).water - n, (Mu17.at_ s i).salt - m⟩ } := by
      unfold setS
      rw [setW_at s hi, if_pos rfl]
      unfold setW
      simp only [List.set_set]
    rw [e2] at hp2
    refine st_if (b := last) (ans_val (val_var rfl)) (fun el => ?_) (fun el => ?_)
    · have hlast : i + 1 = s.pans.length := by rw [el] at hla; exact of_decide_eq_true hla
      have hw := hL el
      refine st_augF (s' := Mu17.flow s i) T hp2 T.nPans_away (pF_away _ _) (val_var rfl) (val_var rfl) ?_ ?_ ?_ fun H3 hp3 k3 => ?_
      · rw [← Int.natCast_add, flow_last hlast hw, hm]
        exact put_away _ _
      · rw [flow_last hlast hw, hm]
      · rw [flow_last hlast hw]
      · exact q H3 hp3 ((k1.trans k2).trans k3)
    · have hlast : ¬ i + 1 = s.pans.length := by rw [el] at hla; exact of_decide_eq_false hla
      have hj : i + 1 < s.pans.length := by omega
      have hj2 : i + 1 < ({ s with pans := s.pans.set i ⟨(Mu17.at_ s i).water - n, (Mu17.at_ s i).salt - m⟩ } : State).pans.length := by
        show i + 1 < (s.pans.set i _).length
        rw [List.length_set]; exact hj
      have ha2 : Mu17.at_ ({ s with pans := s.pans.set i ⟨(Mu17.at_ s i).water - n, (Mu17.at_ s i).salt - m⟩ } : State) (i + 1) = Mu17.at_ s (i + 1) := (set_at (l := s.pans) hi).trans (if_neg (by omega))
      generalize hs2 : ({ s with pans := s.pans.set i ⟨(Mu17.at_ s i).water - n, (Mu17.at_ s i).salt - m⟩ } : State) = s2 at hp2 hj2 ha2
      refine st_augW (i := i + 1) (w := (Mu17.at_ s (i + 1)).water + n) T hp2 hj2 (val_var rfl) (val_to (val_I0 (val_var rfl) val_c) (congrArg V.int (by omega))) (val_var rfl) (by rw [ha2]; omega) fun H3 hp3 k3 => ?_
      have hj3 : i + 1 < (setW s2 (i + 1) ((Mu17.at_ s (i + 1)).water + n)).pans.length := by rw [setW_len]; exact hj2
      have ha3 : (Mu17.at_ (setW s2 (i + 1) ((Mu17.at_ s (i + 1)).water + n)) (i + 1)).salt = (Mu17.at_ s (i + 1)).salt := by rw [setW_at s2 hj2, if_pos rfl, ha2]
      refine st_augS (i := i + 1) (w := (Mu17.at_ s (i + 1)).salt + m) T hp3 hj3 (val_var rfl) (val_to (val_I0 (val_var rfl) val_c) (congrArg V.int (by omega))) (val_var rfl) (by rw [ha3]; omega) fun H4 hp4 k4 => ?_
      refine q H4 ?_ (((k1.trans k2).trans k3).trans k4)
      have e : setS (setW s2 (i + 1) ((Mu17.at_ s (i + 1)).water + n)) (i + 1) ((Mu17.at_ s (i + 1)).salt + m) = Mu17.flow s i := by
        rw [flow_next hlast (hN el), hm]
        unfold setS
        rw [setW_at s2 hj2, if_pos rfl]
        unfold setW
        rw [← hs2]
        simp only [List.set_set]
      rw [← e]
      exact hp4
theorem ok_rain (T : Txt K mg A) : FnOk P w K mg base CX0 3 A.f_rain A.d_rain ["self", "i", "much"] (spRain A) := by
  refine T.F_rain.ok sc_rain (fun vs H Q E h => ?_) (fun cdv Ar outer s H vs Q E hr h => ⟨_, pss_cons (ps_augS (pe_fld (pv 0) rfl) (pv 1) get_list (pv 2) ip_add set_list)
    (pss_cons (ps_set (i := 3) sc_rain.nd rfl (Or.inl rfl) (pe_op op_sub pe_int (pe_meth (pv 0) T.clPans T.m_room (ok_room T) (hr.mono (by decide)) T.b_room .nil pass0 (pa_cons (pv 1) pa_nil))))
    (pss_one (ps_if (pt_cmpR op_gt (pv 3) pe_int (nomark _))
      (pss_cons (ps_set (i := 4) sc_rain.nd rfl (Or.inl rfl) (pe_call (ok_share T) hr rfl T.g_share T.F_share.kp T.b_share .nil pass0 (pa_cons (pe_ix ix_list (pe_fld (pv 0) rfl) (pv 1) (fun _ _ => rfl)) (pa_cons (pe_ix ix_list (pe_fld (pv 0) rfl) (pv 1) (fun _ _ => rfl)) (pa_cons (pv 3) pa_nil)))))
      (pss_cons (ps_augS (pe_fld (pv 0) rfl) (pv 1) get_list (pv 3) ip_sub set_list)
      (pss_cons (ps_augS (pe_fld (pv 0) rfl) (pv 1) get_list (pv 4) ip_sub set_list)
      (pss_one (ps_fldaug (pv 0) (pv 4) in_add))))) pss_nil))), ?_⟩)
  · obtain ⟨_, _, _, _, rfl, _⟩ := h
    rfl
  · obtain ⟨Pa, s, i, n, rfl, hp, hi, hl, hb, q⟩ := h
    generalize hx : (Mu17.at_ s i).water + n = x at hb
    refine st_augW (w := x) T hp hi (val_var rfl) (val_var rfl) (val_var rfl) (by omega) fun H1 hp1 k1 => ?_
    have hi1 : i < (setW s i x).pans.length := by rw [setW_len]; exact hi
    have ha1 : Mu17.at_ (setW s i x) i = ⟨x, (Mu17.at_ s i).salt⟩ := by rw [setW_at s hi, if_pos rfl]
    have hp0 : Mu17.panOf (setW s i x) i = Mu17.panOf s i := rfl
    have hR : rainN s i n = { s with pans := s.pans.set i ⟨x - (x - (Mu17.panOf s i).holds), (Mu17.at_ s i).salt - shareN x (Mu17.at_ s i).salt (x - (Mu17.panOf s i).holds)⟩, away := s.away + shareN x (Mu17.at_ s i).salt (x - (Mu17.panOf s i).holds) } := by
      unfold rainN
      rw [hx]
    by_cases ho : (Mu17.panOf s i).holds < x
    · generalize hr' : x - (Mu17.panOf s i).holds = r at hR
      have er : (0 : Int) - (((Mu17.panOf s i).holds : Int) - (x : Int)) = (r : Int) := by omega
      have hrx : r ≤ x := by omega
      refine st_set (val_to (val_I0 val_c (val_room hp1 hi1 (by rw [setW_len]; exact hl) (val_var rfl) (val_var rfl))) (v' := .int (r : Int)) (by rw [ha1, hp0]; exact congrArg V.int er)) ?_
      refine st_yes (an_gt (val_var rfl) val_c (decide_eq_true (by omega))) ?_
      refine st_set (val_share (val_to (val_water T hp1 hi1 (val_var rfl) (val_var rfl)) (by rw [ha1])) (val_to (val_salt T hp1 hi1 (val_var rfl) (val_var rfl)) (by rw [ha1])) (val_var rfl) hb) ?_
      have hsh := share_le x (Mu17.at_ s i).salt r hrx
      generalize hm : shareN x (Mu17.at_ s i).salt r = m at hsh hR ⊢
      refine st_augW (w := x - r) T hp1 hi1 (val_var rfl) (val_var rfl) (val_var rfl) (by rw [ha1]; show (x : Int) - (r : Int) = _; omega) fun H2 hp2 k2 => ?_
      have hi2 : i < (setW (setW s i x) i (x - r)).pans.length := by rw [setW_len]; exact hi1
      have ha2 : (Mu17.at_ (setW (setW s i x) i (x - r)) i).salt = (Mu17.at_ s i).salt := by rw [setW_at _ hi1, if_pos rfl, ha1]
      refine st_augS (w := (Mu17.at_ s i).salt - m) T hp2 hi2 (val_var rfl) (val_var rfl) (val_var rfl) (by rw [ha2]; omega) fun H3 hp3 k3 => ?_
      have e3 : setS (setW (setW s i x) i (x - r)) i ((Mu17.at_ s i).salt - m) = { s with pans := s.pans.set i ⟨x - r, (Mu17.at_ s i).salt - m⟩ } := by
        unfold setS
        rw [setW_at _ hi1, if_pos rfl]
        unfold setW
        simp only [List.set_set]
      rw [e3] at hp3
      refine st_augF (s' := rainN s i n) T hp3 T.nPans_away (pF_away _ _) (val_var rfl) (val_var rfl) ?_ ?_ ?_ fun H4 hp4 k4 => ?_
      · rw [← Int.natCast_add, hR]
        exact put_away _ _
      · rw [hR]
      · rw [hR]
      · exact q H4 hp4 (((k1.trans k2).trans k3).trans k4)
    · have er : x - (Mu17.panOf s i).holds = 0 := by omega
      have h0 : shareN x (Mu17.at_ s i).salt 0 = 0 := by unfold shareN; split <;> simp
      rw [er, h0] at hR
      refine st_set (val_I0 val_c (val_room hp1 hi1 (by rw [setW_len]; exact hl) (val_var rfl) (val_var rfl))) ?_
      refine st_no (an_gt (b := false) (val_var rfl) val_c (decide_eq_false (by rw [ha1, hp0]; simp only []; omega))) (st_next ?_)
      refine q H1 ?_ k1
      have e : rainN s i n = setW s i x := by rw [hR]; rfl
      rw [e]
      exact hp1
end
end Sal
namespace Sal
open PySem PySem.Spec PyProof.Rows L2
open Mu17 (Works State Brine Deed Pan Day)
section
variable {P : Program} {w : World} {K : PySem.W.Frag} {mg : Str → Option Value} {base : Heap} {A : Ad}
/-- the day that is now -/
theorem val_days {σ : L2.St} {H : Hp} {to : TE} {Pa : PaA} {s : State} (T : Txt K mg A) (h : PansAt A.cPans A.cPlan H Pa s) (ho : Val to σ H (.ref Pa.a)) : Val (tFld K (tFld K to "plan") "days") σ H (.ref Pa.p.dd) :=
  val_fld (val_pl T h ho) h.plan.obj T.clPlan T.nPlan_days (lF_days _ _)
theorem ok_weather (T : Txt K mg A) : FnOk P w K mg base CX0 4 A.f_weather A.d_weather ["self"] (spDoes A fun s => Mu17.pass s) := by
  refine T.F_weather.ok sc_weather (fun vs H Q E h => ?_) (fun cdv Ar outer s H vs Q E hr h => ⟨_, pss_cons (ps_asg (pe_ix ix_list (pe_fld (pe_fld (pv 0) rfl) rfl) (pe_op op_mod (pe_fld (pv 0) rfl) (pe_callB call_len_seq (by rfl) T.blen PySem.boot_len (pa_cons (pe_fld (pe_fld (pv 0) rfl) rfl) pa_nil))) (fun _ _ => rfl))
      (pg_tup rfl (pgs_cons (pg_name (i := 1) sc_weather.nd rfl (Or.inl rfl)) (pgs_cons (pg_name (i := 2) sc_weather.nd rfl (Or.inl rfl)) pgs_nil))))
    (pss_cons (ps_for PassesOwn.never rfl (pi_range1 rfl T.brange (pa_cons (pe_callB call_len_seq (by rfl) T.blen PySem.boot_len (pa_cons (pe_fld (pv 0) rfl) pa_nil)) pa_nil)) (pg_name (i := 3) sc_weather.nd rfl (Or.inl rfl))
      (pss_cons (ps_set (i := 4) sc_weather.nd rfl (Or.inl rfl) (pe_ix ix_tup (pe_ix ix_list (pe_fld (pe_fld (pv 0) rfl) rfl) (pv 3) (fun _ _ => rfl)) pe_int (fun _ _ => rfl)))
      (pss_cons (ps_expr (pe_meth (pv 0) T.clPans T.m_rain (ok_rain T) hr T.b_rain .nil pass0 (pa_cons (pv 3) (pa_cons (pe_op op_mul (pv 2) (pv 4)) pa_nil))))
      (pss_one (ps_augS (pe_fld (pv 0) rfl) (pv 3) get_list (pe_callB (call_min2 rfl) (by rfl) T.bmin (by decide +kernel) (pa_cons (pe_ix ix_list (pe_fld (pv 0) rfl) (pv 3) (fun _ _ => rfl)) (pa_cons (pe_op op_mul (pv 1) (pv 4)) pa_nil))) ip_sub set_list)))))
    (pss_one (ps_fldaug (pv 0) pe_int in_add))), ?_⟩)
  · obtain ⟨_, _, rfl, _⟩ := h
    rfl
  · obtain ⟨Pa, s, rfl, hp, wf, q⟩ := h
    have hl := wf.ln
    have h3 : s.pans.length ≤ 3 := by have := wf.wk.np; omega
    have hdl := wf.d1
    have hdb := wf.db
    have hdx : s.day % s.works.days.length < s.works.days.length := Nat.mod_lt _ hdl
    have hda : s.works.days[s.day % s.works.days.length]? = some (Mu17.dayOf s) := by
      unfold Mu17.dayOf
      rw [List.getD_eq_getElem?_getD, List.getElem?_eq_getElem hdx]; rfl
    have hdd : s.day % s.works.days.length < Pa.p.ds.length := by rw [hp.plan.nd]; exact hdx
    have htup := hp.plan.td _ _ _ (List.getElem?_eq_getElem hdd) hda
    have hds : (Pa.p.ds.map V.ref)[s.day % s.works.days.length]? = some (.ref Pa.p.ds[s.day % s.works.days.length]) := by rw [List.getElem?_map, List.getElem?_eq_getElem hdd]; rfl
    generalize Pa.p.ds[s.day % s.works.days.length] = bd at htup hds
    have hmod : ((s.day : Int) % ((Pa.p.ds.map V.ref).length : Int)) = ((s.day % s.works.days.length : Nat) : Int) := by
      rw [List.length_map, hp.plan.nd, Int.natCast_emod]
    have hlen : (0 : Int) < ((Pa.p.ds.map V.ref).length : Int) := by rw [List.length_map, hp.plan.nd]; omega
    refine val_ixL (K := K) (σ := start ["self", "sun", "rain", "i", "area"] [.ref Pa.a]) (val_days T hp (val_var rfl)) (val_to (val_I (val_gone T hp (val_var rfl)) (val_len (K := K) (val_days T hp (val_var rfl)) (SqL.of hp.plan.ld)) hlen) (congrArg V.int hmod)) (SqL.of hp.plan.ld) (atI_nat hds) _ ?_
    refine ⟨bd, _, rfl, SqT.of htup, rfl, _, _, rfl, _, _, rfl, rfl, ?_⟩
    refine st_forR (n := s.pans.length) (val_lenW T hp (val_var rfl)) (by omega) (fun i σ H' => ∃ v u : Option V, σ = [some (.ref Pa.a), some (.int (Mu17.dayOf s).sun), some (.int (Mu17.dayOf s).rain), v, u] ∧ PansAt A.cPans A.cPlan H' Pa (weaUp s i) ∧ Keeps Pa.mine H H')
      ⟨none, none, rfl, by rw [weaUp_zero]; exact hp, Keeps.refl⟩ ?_ ?_
    · rintro i σ H1 hi ⟨v, u, rfl, hp1, k1⟩
      have hi1 : i < (weaUp s i).pans.length := by rw [weaUp_len s hl]; exact hi
      have hiw : i < (weaUp s i).works.pans.length := hl ▸ hi
      have hat := weaUp_at s hl hi
      have hb := wf.pb hi
      have hw := wf.wl i
      have hpan : Mu17.panOf (weaUp s i) i = Mu17.panOf s i := rfl
      refine st_set (val_area T hp1 hiw (val_var rfl) (val_var rfl)) ?_
      rw [hpan]
      have hra : (Mu17.dayOf s).rain * (Mu17.panOf s i).area ≤ 20 * 20 := Nat.mul_le_mul hdb.2 hb.2.1
      have hsu : (Mu17.dayOf s).sun * (Mu17.panOf s i).area ≤ 20 * 20 := Nat.mul_le_mul hdb.1 hb.2.1
      refine st_meth hp1 (val_var rfl) (by decide +kernel) (va_cons (val_var rfl) (va_cons (val_to (val_I (val_var rfl) (val_var rfl) (by exact .inl ⟨by omega, by omega⟩)) (v' := .int (((Mu17.dayOf s).rain * (Mu17.panOf s i).area : Nat) : Int)) (congrArg V.int (Int.natCast_mul _ _).symm)) va_nil))
        ⟨Pa, weaUp s i, i, (Mu17.dayOf s).rain * (Mu17.panOf s i).area, rfl, hp1, hi1, ?_, ?_, fun H2 hp2 k2 => ?_⟩
      · rw [weaUp_len s hl]; exact hl
      · rw [hat]; omega
      · have hstep := weaUp_step s hl hi
        have hi2 : i < (rainN (weaUp s i) i ((Mu17.dayOf s).rain * (Mu17.panOf s i).area)).pans.length := by
          unfold rainN
          show i < ((weaUp s i).pans.set i _).length
          rw [List.length_set]; exact hi1
        generalize rainN (weaUp s i) i ((Mu17.dayOf s).rain * (Mu17.panOf s i).area) = s2 at hp2 hstep hi2
        refine st_augW (w := (Mu17.at_ s2 i).water - min (Mu17.at_ s2 i).water ((Mu17.dayOf s).sun * (Mu17.panOf s i).area)) T hp2 hi2 (val_var rfl) (val_var rfl)
          (val_to (val_min2 (val_water T hp2 hi2 (val_var rfl) (val_var rfl)) (val_to (val_I (val_var rfl) (val_var rfl) (by exact .inl ⟨by omega, by omega⟩)) (v' := .int (((Mu17.dayOf s).sun * (Mu17.panOf s i).area : Nat) : Int)) (congrArg V.int (Int.natCast_mul _ _).symm))) (congrArg V.int (min_nat _ _))) (by omega) fun H3 hp3 k3 => ?_
        rw [hstep] at hp3
        exact ⟨_, _, rfl, hp3, (k1.trans k2).trans k3⟩
    · rintro σ H1 ⟨v, u, rfl, hp1, k1⟩
      refine st_augF (s' := Mu17.pass s) T hp1 T.nPans_gone_by (pF_gone _ _) (val_var rfl) val_c ?_ ?_ ?_ fun H2 hp2 k2 => ?_
      · rw [← weaUp_full s hl]
        exact put_gone _ _ (n := s.day + 1)
      · rw [← weaUp_full s hl]
      · rw [← weaUp_full s hl]
      · exact q H2 hp2 (k1.trans k2)
theorem ok_day (T : Txt K mg A) : FnOk P w K mg base CX0 5 A.f_day A.d_day ["self", "deed"] (spDay A) := by
  refine T.F_day.ok sc_day (fun vs H Q E h => ?_) (fun cdv Ar outer s H vs Q E hr h => ⟨_, pss_cons (ps_if (pt_cmpR op_eq (pv 1) (pe_ci rfl T.kFILL) (nomark _)) (pss_one (ps_expr (pe_meth0 (pv 0) T.clPans T.m_fill (ok_fill T) (hr.mono (by decide)) T.b_fill .nil pass0)))
      (pss_one (ps_if (pt_cmpR op_eq (pv 1) (pe_ci rfl T.kRAKE) (nomark _)) (pss_one (ps_expr (pe_meth0 (pv 0) T.clPans T.m_rake (ok_rake T) (hr.mono (by decide)) T.b_rake .nil pass0)))
      (pss_one (ps_if (pt_cmpR op_ge (pv 1) (pe_ci rfl T.kFIRST_SLUICE) (nomark _)) (pss_one (ps_expr (pe_meth (pv 0) T.clPans T.m_sluice (ok_sluice T) (hr.mono (by decide)) T.b_sluice .nil pass0 (pa_cons (pe_op op_sub (pv 1) (pe_ci rfl T.kFIRST_SLUICE)) pa_nil)))) pss_nil)))))
    (pss_one (ps_expr (pe_meth0 (pv 0) T.clPans T.m_weather (ok_weather T) hr T.b_weather .nil pass0))), ?_⟩)
  · obtain ⟨_, _, _, rfl, _⟩ := h
    rfl
  · obtain ⟨Pa, s, d, rfl, hp, wf, hd, q⟩ := h
    have main : ∀ H1, PansAt A.cPans A.cPlan H1 Pa (Mu17.deed s (Mu17.deedOf d)) → Keeps Pa.mine H H1 → tDrop (tMeth A.cPans "weather" (spDoes A fun s => Mu17.pass s) [] E0 (tVar 0) tNil) { nx := fun _ H' => Q .non H', rt := Q } (start ["self", "deed"] [.ref Pa.a, .int d]) H1 := by
      intro H1 hp1 k1
      exact st_meth hp1 (val_var rfl) (by decide +kernel) va_nil ⟨Pa, _, rfl, hp1, deed_wf wf _, fun H2 hp2 k2 => q H2 hp2 (k1.trans k2)⟩
    by_cases h1 : d = 1
    · subst h1
      refine st_yes (an_eqI (val_var rfl) val_c (decide_eq_true rfl)) ?_
      exact st_meth hp (val_var rfl) (by decide +kernel) va_nil ⟨Pa, s, rfl, hp, wf, fun H1 hp1 k1 => main H1 hp1 k1⟩
    · refine st_no (an_eqI (b := false) (val_var rfl) val_c (decide_eq_false (by omega))) ?_
      by_cases h2 : d = 2
      · subst h2
        refine st_yes (an_eqI (val_var rfl) val_c (decide_eq_true rfl)) ?_
        exact st_meth hp (val_var rfl) (by decide +kernel) va_nil ⟨Pa, s, rfl, hp, wf, fun H1 hp1 k1 => main H1 hp1 k1⟩
      · refine st_no (an_eqI (b := false) (val_var rfl) val_c (decide_eq_false (by omega))) ?_
        by_cases h0 : d = 0
        · subst h0
          refine st_no (an_ge (b := false) (val_var rfl) val_c (decide_eq_false (by omega))) (st_next ?_)
          exact main H hp Keeps.refl
        · refine st_yes (an_ge (val_var rfl) val_c (decide_eq_true (by omega))) ?_
          obtain ⟨i, rfl⟩ : ∃ i, d = i + 3 := ⟨d - 3, by omega⟩
          have hi : i < s.pans.length := by omega
          have e : Mu17.deed s (Mu17.deedOf (i + 3)) = Mu17.flow s i := by
            show (if s.pans.length ≤ i + 3 - 3 then s else Mu17.flow s (i + 3 - 3)) = _
            rw [Nat.add_sub_cancel, if_neg (by omega)]
          refine st_meth hp (val_var rfl) (by decide +kernel) (va_cons (val_to (val_I0 (val_var rfl) val_c) (v' := .int (i : Int)) (congrArg V.int (by omega))) va_nil) ⟨Pa, s, i, rfl, hp, wf, hi, fun H1 hp1 k1 => main H1 (by rw [e]; exact hp1) k1⟩
end
end Sal
namespace Sal
open PySem PySem.Spec PyProof.Rows L2
open Mu17 (Works State Brine Deed Pan Day)
/-! ### the pans' fields, value by value -/
def cF (pl wl sl a b c d e : V) : List (Str × V) := [("plan", pl), ("water", wl), ("salt", sl), ("store", a), ("away", b), ("drawn", c), ("came", d), ("gone_by", e)]
section
variable {pl wl sl a b c d e v : V}
theorem cput_water : putF "water" v (cF pl wl sl a b c d e) = cF pl v sl a b c d e := put_past (by decide +kernel) put_here
theorem cput_salt : putF "salt" v (cF pl wl sl a b c d e) = cF pl wl v a b c d e := put_past (by decide +kernel) (put_past (by decide +kernel) put_here)
theorem cput_store : putF "store" v (cF pl wl sl a b c d e) = cF pl wl sl v b c d e := put_past (by decide +kernel) (put_past (by decide +kernel) (put_past (by decide +kernel) put_here))
theorem cput_away : putF "away" v (cF pl wl sl a b c d e) = cF pl wl sl a v c d e := put_past (by decide +kernel) (put_past (by decide +kernel) (put_past (by decide +kernel) (put_past (by decide +kernel) put_here)))
theorem cput_drawn : putF "drawn" v (cF pl wl sl a b c d e) = cF pl wl sl a b v d e := put_past (by decide +kernel) (put_past (by decide +kernel) (put_past (by decide +kernel) (put_past (by decide +kernel) (put_past (by decide +kernel) put_here))))
theorem cput_came : putF "came" v (cF pl wl sl a b c d e) = cF pl wl sl a b c v e := put_past (by decide +kernel) (put_past (by decide +kernel) (put_past (by decide +kernel) (put_past (by decide +kernel) (put_past (by decide +kernel) (put_past (by decide +kernel) put_here)))))
theorem cput_gone : putF "gone_by" v (cF pl wl sl a b c d e) = cF pl wl sl a b c d v := put_past (by decide +kernel) (put_past (by decide +kernel) (put_past (by decide +kernel) (put_past (by decide +kernel) (put_past (by decide +kernel) (put_past (by decide +kernel) (put_past (by decide +kernel) put_here))))))
/-- the stores of __init__, one behind another -/
theorem cput_new : putF "gone_by" e (putF "came" d (putF "drawn" c (putF "away" b (putF "store" a (putF "salt" sl (putF "water" wl (putF "plan" pl []))))))) = cF pl wl sl a b c d e := by
  have e1 : putF "water" wl (putF "plan" pl []) = ([("plan", pl), ("water", wl)] : List (Str × V)) := put_past (by decide +kernel) rfl
  rw [e1]
  have e2 : putF "salt" sl ([("plan", pl), ("water", wl)] : List (Str × V)) = ([("plan", pl), ("water", wl), ("salt", sl)] : List (Str × V)) := put_past (by decide +kernel) (put_past (by decide +kernel) rfl)
  rw [e2]
  have e3 : putF "store" a ([("plan", pl), ("water", wl), ("salt", sl)] : List (Str × V)) = ([("plan", pl), ("water", wl), ("salt", sl), ("store", a)] : List (Str × V)) := put_past (by decide +kernel) (put_past (by decide +kernel) (put_past (by decide +kernel) rfl))
  rw [e3]
  have e4 : putF "away" b ([("plan", pl), ("water", wl), ("salt", sl), ("store", a)] : List (Str × V)) = ([("plan", pl), ("water", wl), ("salt", sl), ("store", a), ("away", b)] : List (Str × V)) := put_past (by decide +kernel) (put_past (by decide +kernel) (put_past (by decide +kernel) (put_past (by decide +kernel) rfl)))
  rw [e4]
  have e5 : putF "drawn" c ([("plan", pl), ("water", wl), ("salt", sl), ("store", a), ("away", b)] : List (Str × V)) = ([("plan", pl), ("water", wl), ("salt", sl), ("store", a), ("away", b), ("drawn", c)] : List (Str × V)) := put_past (by decide +kernel) (put_past (by decide +kernel) (put_past (by decide +kernel) (put_past (by decide +kernel) (put_past (by decide +kernel) rfl))))
  rw [e5]
  have e6 : putF "came" d ([("plan", pl), ("water", wl), ("salt", sl), ("store", a), ("away", b), ("drawn", c)] : List (Str × V)) = ([("plan", pl), ("water", wl), ("salt", sl), ("store", a), ("away", b), ("drawn", c), ("came", d)] : List (Str × V)) := put_past (by decide +kernel) (put_past (by decide +kernel) (put_past (by decide +kernel) (put_past (by decide +kernel) (put_past (by decide +kernel) (put_past (by decide +kernel) rfl)))))
  rw [e6]
  exact put_past (by decide +kernel) (put_past (by decide +kernel) (put_past (by decide +kernel) (put_past (by decide +kernel) (put_past (by decide +kernel) (put_past (by decide +kernel) (put_past (by decide +kernel) rfl))))))
end
theorem pl1 {f : Str} {v : V} {fs : List (Str × V)} {n : Nat} (h : fs.length ≤ n) : (putF f v fs).length ≤ n + 1 := Nat.le_trans (length_putF f v fs) (Nat.succ_le_succ h)
theorem pl0 : ([] : List (Str × V)).length ≤ 0 := Nat.le_refl 0
/-! ### Pans(plan), copied -/
def spPInit (A : Ad) : Sp := fun vs H Q _ => ∃ (x dx : Addr) (p : PlA) (W : Works), vs = [.ref x, .ref p.pl] ∧ H x = some (.ins A.cPans dx []) ∧ PlanAt A.cPlan H p W ∧ W.pans.length ≤ 3 ∧ (∀ b ∈ p.foot, b ≠ x) ∧
  ∀ H' wl sl, H wl = none → H sl = none → PansAt A.cPans A.cPlan H' ⟨x, dx, wl, sl, p⟩ (Mu17.begun W) → Keeps [x] H H' → Q .non H'
def spCopied (A : Ad) : Sp := fun vs H Q _ => ∃ (Pa : PaA) (s : State), vs = [.ref Pa.a] ∧ PansAt A.cPans A.cPlan H Pa s ∧ s.works.pans.length ≤ 3 ∧
  ∀ H' Pb, PansAt A.cPans A.cPlan H' Pb s → Pb.p = Pa.p → H Pb.a = none → H Pb.wl = none → H Pb.sl = none → Same H H' → Q (.ref Pb.a) H'
theorem rep_map {α β : Type} {c : β} : ∀ (l : List α) (f : α → β), (∀ x, f x = c) → l.map f = List.replicate l.length c
  | [], _, _ => rfl
  | x :: l, f, h => by rw [List.map_cons, h x, rep_map l f h]; rfl
theorem zeros (n : Nat) : (List.replicate n [V.int 0]).flatten = List.replicate n (V.int 0) := by
  induction n with
  | zero => rfl
  | succ n ih => rw [List.replicate_succ, List.flatten_cons, ih]; rfl
theorem PlanAt.has {C : Addr} {H : Hp} {p : PlA} {W : Works} (h : PlanAt C H p W) : ∀ b ∈ p.foot, ∃ o, H b = some o := by
  intro b hb
  unfold PlA.foot at hb
  rw [List.mem_cons, List.mem_cons, List.mem_cons, List.mem_append] at hb
  rcases hb with rfl | rfl | rfl | hb | hb
  · exact ⟨_, h.obj⟩
  · exact ⟨_, h.lp⟩
  · exact ⟨_, h.ld⟩
  · obtain ⟨i, hi, e⟩ := List.getElem_of_mem hb
    have hw : i < W.pans.length := by rw [← h.np]; exact hi
    exact ⟨_, h.tp i b _ (by rw [List.getElem?_eq_getElem hi, e]) (List.getElem?_eq_getElem hw)⟩
  · obtain ⟨i, hi, e⟩ := List.getElem_of_mem hb
    have hw : i < W.days.length := by rw [← h.nd]; exact hi
    exact ⟨_, h.td i b _ (by rw [List.getElem?_eq_getElem hi, e]) (List.getElem?_eq_getElem hw)⟩
theorem PlanAt.ne {C : Addr} {H : Hp} {p : PlA} {W : Works} (h : PlanAt C H p W) {x : Addr} (hx : H x = none) : ∀ b ∈ p.foot, b ≠ x := fun b hb => by
  obtain ⟨o, e⟩ := h.has b hb
  exact ne_of_none e hx
theorem PansAt.has {C CP : Addr} {H : Hp} {P : PaA} {s : State} (h : PansAt C CP H P s) : ∀ b ∈ P.all, ∃ o, H b = some o := by
  intro b hb
  unfold PaA.all at hb
  rw [List.mem_cons, List.mem_cons, List.mem_cons] at hb
  rcases hb with rfl | rfl | rfl | hb
  · exact ⟨_, h.obj⟩
  · exact ⟨_, h.lw⟩
  · exact ⟨_, h.ls⟩
  · exact h.plan.has b hb
theorem PansAt.ne {C CP : Addr} {H : Hp} {P : PaA} {s : State} (h : PansAt C CP H P s) {x : Addr} (hx : H x = none) : ∀ b ∈ P.all, b ≠ x := fun b hb => by
  obtain ⟨o, e⟩ := h.has b hb
  exact ne_of_none e hx
section
variable {P : Program} {w : World} {K : PySem.W.Frag} {mg : Str → Option Value} {base : Heap} {A : Ad}
theorem ok_pInit (T : Txt K mg A) : FnOk P w K mg base CX0 1 A.f_pInit A.d_pInit ["self", "plan"] (spPInit A) := by
  refine T.F_pInit.ok sc_pInit (fun vs H Q E h => ?_) (fun cdv Ar outer s H vs Q E hr h => ⟨_, pss_cons (ps_fld (pv 0) (pv 1) rfl)
    (pss_cons (ps_fld (pv 0) (pe_op op_rep (pe_lst (pa_cons pe_int pa_nil)) (pe_callB call_len_seq (by rfl) T.blen PySem.boot_len (pa_cons (pe_fld (pv 1) rfl) pa_nil))) rfl)
    (pss_cons (ps_fld (pv 0) (pe_op op_rep (pe_lst (pa_cons pe_int pa_nil)) (pe_callB call_len_seq (by rfl) T.blen PySem.boot_len (pa_cons (pe_fld (pv 1) rfl) pa_nil))) rfl)
    (pss_cons (ps_fld (pv 0) pe_int rfl) (pss_cons (ps_fld (pv 0) pe_int rfl) (pss_cons (ps_fld (pv 0) pe_int rfl) (pss_cons (ps_fld (pv 0) pe_int rfl) (pss_one (ps_fld (pv 0) pe_int rfl)))))))), ?_⟩)
  · obtain ⟨_, _, _, _, rfl, _⟩ := h
    rfl
  · obtain ⟨x, dx, p, W, rfl, hx, hpl, hn, hfx, q⟩ := h
    -- self.plan = plan
    refine st_fld (val_var rfl) (val_var rfl) hx T.clPans T.nPans_plan (by show 0 < 1000; decide) ?_
    generalize hH1 : upd H x (.ins A.cPans dx (putF "plan" (.ref p.pl) [])) = H1
    have x1 : H1 x = some (.ins A.cPans dx (putF "plan" (.ref p.pl) [])) := by rw [← hH1]; exact upd_same
    have k1 : Keeps [x] H H1 := by rw [← hH1]; exact Keeps.upd (by simp)
    -- self.water = [0] * len(plan.pans)
    have hlen : ∀ H' : Hp, Keeps [x] H H' → Val (tCB (fun xs H Q => ∃ p ys, xs = [.ref p] ∧ (SqL K H p ys ∨ SqT K H p ys) ∧ Q (.int ys.length) H) (tCons (tFld K (tVar 1) "pans") tNil)) (start ["self", "plan"] [.ref x, .ref p.pl]) H' (.int (W.pans.length : Nat)) := by
      intro H' k
      have hpl' := hpl.keep fun b hb o e => k b o e (by simpa using hfx b hb)
      have q := val_len (K := K) (σ := start ["self", "plan"] [.ref x, .ref p.pl]) (val_fld (val_var (i := 1) rfl) hpl'.obj T.clPlan T.nPlan_pans (lF_pans _ _)) (SqL.of hpl'.lp)
      rw [List.length_map, hpl'.np] at q
      exact q
    refine ⟨by show 1 ≤ sizeLine; decide, fun t1 nt1 => ?_⟩
    have kt1 : Keeps [x] H (upd H1 t1 (.lst [.int 0])) := k1.trans (Keeps.new nt1)
    refine hlen _ kt1 _ ⟨t1, _, _, rfl, rfl, upd_same, by omega, by omega, ?_, fun wl nwl => ?_⟩
    · rw [Int.toNat_natCast]
      show 1 * W.pans.length ≤ sizeLine
      exact Nat.le_trans (by omega : 1 * W.pans.length ≤ 3) (by decide)
    have hwl0 : H wl = none := kt1.free nwl (by
      have : wl ≠ x := fun z => by rw [z, upd_ne (ne_of_none x1 nt1), x1] at nwl; cases nwl
      simpa using this)
    rw [Int.toNat_natCast, zeros]
    generalize hH2 : upd (upd H1 t1 (.lst [.int 0])) wl (.lst (List.replicate W.pans.length (.int 0))) = H2
    have s12 : Same H1 H2 := by rw [← hH2]; exact ((Keeps.new (S := []) nt1).trans (Keeps.new nwl)).same
    have l2 : H2 wl = some (.lst (List.replicate W.pans.length (.int 0))) := by rw [← hH2]; exact upd_same
    have x2 : H2 x = some (.ins A.cPans dx (putF "plan" (.ref p.pl) [])) := s12 _ _ x1
    refine ⟨_, rfl, x, A.cPans, dx, _, rfl, x2, T.clPans, T.nPans_water, (Nat.lt_of_le_of_lt (pl1 pl0) (by decide)), ?_⟩
    have hxw : wl ≠ x := fun z => by rw [z] at hwl0; rw [hx] at hwl0; cases hwl0
    generalize hH3 : upd H2 x (.ins A.cPans dx (putF "water" (.ref wl) (putF "plan" (.ref p.pl) []))) = H3
    have k3 : Keeps [x] H H3 := by rw [← hH3]; exact (k1.trans (Keeps.of_same s12)).trans (Keeps.upd (by simp))
    have x3 : H3 x = some (.ins A.cPans dx (putF "water" (.ref wl) (putF "plan" (.ref p.pl) []))) := by rw [← hH3]; exact upd_same
    have l3 : H3 wl = some (.lst (List.replicate W.pans.length (.int 0))) := by rw [← hH3, upd_ne hxw]; exact l2
    -- self.salt
    refine ⟨by show 1 ≤ sizeLine; decide, fun t2 nt2 => ?_⟩
    have kt2 : Keeps [x] H (upd H3 t2 (.lst [.int 0])) := k3.trans (Keeps.new nt2)
    refine hlen _ kt2 _ ⟨t2, _, _, rfl, rfl, upd_same, by omega, by omega, ?_, fun sl nsl => ?_⟩
    · rw [Int.toNat_natCast]
      show 1 * W.pans.length ≤ sizeLine
      exact Nat.le_trans (by omega : 1 * W.pans.length ≤ 3) (by decide)
    have hsl0 : H sl = none := kt2.free nsl (by
      have : sl ≠ x := fun z => by rw [z, upd_ne (ne_of_none x3 nt2), x3] at nsl; cases nsl
      simpa using this)
    have hxs : sl ≠ x := fun z => by rw [z] at hsl0; rw [hx] at hsl0; cases hsl0
    have hws : wl ≠ sl := by
      intro z
      rw [← z, upd_ne (ne_of_none l3 nt2), l3] at nsl
      cases nsl
    rw [Int.toNat_natCast, zeros]
    generalize hH4 : upd (upd H3 t2 (.lst [.int 0])) sl (.lst (List.replicate W.pans.length (.int 0))) = H4
    have s34 : Same H3 H4 := by rw [← hH4]; exact ((Keeps.new (S := []) nt2).trans (Keeps.new nsl)).same
    have l4s : H4 sl = some (.lst (List.replicate W.pans.length (.int 0))) := by rw [← hH4]; exact upd_same
    have l4w : H4 wl = some (.lst (List.replicate W.pans.length (.int 0))) := s34 _ _ l3
    have x4 := s34 _ _ x3
    refine ⟨_, rfl, x, A.cPans, dx, _, rfl, x4, T.clPans, T.nPans_salt, (Nat.lt_of_le_of_lt (pl1 (pl1 pl0)) (by decide)), ?_⟩
    refine st_fld val_c (val_var rfl) upd_same T.clPans T.nPans_store (Nat.lt_of_le_of_lt (pl1 (pl1 (pl1 pl0))) (by decide)) ?_
    rw [upd_upd]
    refine st_fld val_c (val_var rfl) upd_same T.clPans T.nPans_away (Nat.lt_of_le_of_lt (pl1 (pl1 (pl1 (pl1 pl0)))) (by decide)) ?_
    rw [upd_upd]
    refine st_fld val_c (val_var rfl) upd_same T.clPans T.nPans_drawn (Nat.lt_of_le_of_lt (pl1 (pl1 (pl1 (pl1 (pl1 pl0))))) (by decide)) ?_
    rw [upd_upd]
    refine st_fld val_c (val_var rfl) upd_same T.clPans T.nPans_came (Nat.lt_of_le_of_lt (pl1 (pl1 (pl1 (pl1 (pl1 (pl1 pl0)))))) (by decide)) ?_
    rw [upd_upd]
    refine st_fld val_c (val_var rfl) upd_same T.clPans T.nPans_gone_by (Nat.lt_of_le_of_lt (pl1 (pl1 (pl1 (pl1 (pl1 (pl1 (pl1 pl0))))))) (by decide)) ?_
    rw [upd_upd, cput_new]
    have k4 : Keeps [x] H (upd H4 x (.ins A.cPans dx (cF (.ref p.pl) (.ref wl) (.ref sl) (.int 0) (.int 0) (.int 0) (.int 0) (.int 0)))) := (k3.trans (Keeps.of_same s34)).trans (Keeps.upd (by simp))
    refine q _ wl sl hwl0 hsl0 ⟨upd_same, ?_, ?_, hpl.keep fun b hb o e => k4 b o e (by simpa using hfx b hb), hws, fun b hb => ⟨hfx b hb, hpl.ne hwl0 b hb, hpl.ne hsl0 b hb⟩⟩ k4
    · rw [upd_ne hxw, l4w]
      unfold waters Mu17.begun
      rw [List.map_map]
      exact congrArg (fun z => some (HO.lst z)) (rep_map W.pans _ fun _ => rfl).symm
    · rw [upd_ne hxs, l4s]
      unfold salts Mu17.begun
      rw [List.map_map]
      exact congrArg (fun z => some (HO.lst z)) (rep_map W.pans _ fun _ => rfl).symm
theorem ok_copied (T : Txt K mg A) : FnOk P w K mg base CX0 3 A.f_copied A.d_copied ["self"] (spCopied A) := by
  refine T.F_copied.ok sc_copied (fun vs H Q E h => ?_) (fun cdv Ar outer s H vs Q E hr h => ⟨_, pss_cons (ps_set (i := 1) sc_copied.nd rfl (Or.inl rfl) (pe_make T.mkPans (ok_pInit T) hr rfl T.gPans T.b_pInit .nil pass0 (pa_cons (pe_fld (pv 0) rfl) pa_nil)))
    (pss_cons (ps_fld (pv 1) (pe_callTy call_list_of (by rfl) T.blist (by decide +kernel) (pa_cons (pe_fld (pv 0) rfl) pa_nil)) rfl)
    (pss_cons (ps_fld (pv 1) (pe_callTy call_list_of (by rfl) T.blist (by decide +kernel) (pa_cons (pe_fld (pv 0) rfl) pa_nil)) rfl)
    (pss_cons (ps_fld (pv 1) (pe_fld (pv 0) rfl) rfl) (pss_cons (ps_fld (pv 1) (pe_fld (pv 0) rfl) rfl) (pss_cons (ps_fld (pv 1) (pe_fld (pv 0) rfl) rfl) (pss_cons (ps_fld (pv 1) (pe_fld (pv 0) rfl) rfl) (pss_cons (ps_fld (pv 1) (pe_fld (pv 0) rfl) rfl)
    (pss_one (ps_ret (pv 1)))))))))), ?_⟩)
  · obtain ⟨_, _, rfl, _⟩ := h
    rfl
  · obtain ⟨Pa, s, rfl, hp, h3, q⟩ := h
    -- found = Pans(self.plan)
    refine val_pl (σ := start ["self", "found"] [.ref Pa.a]) T hp (val_var rfl) _ ?_
    intro x dx nx ndx nex
    have s0 : Same H (upd (upd H dx (.own x)) x (.ins A.cPans dx [])) := ((Keeps.new (S := []) ndx).trans (Keeps.new (by rw [upd_ne (Ne.symm nex)]; exact nx))).same
    refine ⟨x, dx, Pa.p, s.works, rfl, upd_same, hp.plan.keep fun b hb o e => s0 b o e, h3, hp.plan.ne nx, fun H1 w0 s0l nw0 ns0 hq k1 => ⟨rfl, ?_⟩⟩
    have x1 := hq.obj
    have s1 : Same H H1 := fun b o e => k1 b o (s0 b o e) (by simpa using ne_of_none e nx)
    show tSeq _ _ _ [some (.ref Pa.a), some (.ref x)] H1
    -- found.water = list(self.water)
    refine val_wl T (hp.same s1) (val_var rfl) _ ⟨Pa.wl, _, rfl, .inl (SqL.of (hp.same s1).lw), fun l1 nl1 => ?_⟩
    have nl1' : H l1 = none := s1.free nl1
    have hxl1 : x ≠ l1 := ne_of_none x1 nl1
    refine ⟨_, rfl, x, A.cPans, dx, _, rfl, (by rw [upd_ne hxl1]; exact x1), T.clPans, T.nPans_water, pF_len _ _, ?_⟩
    rw [show putF "water" (.ref l1) (pF ⟨x, dx, w0, s0l, Pa.p⟩ (Mu17.begun s.works)) = cF (.ref Pa.p.pl) (.ref l1) (.ref s0l) (.int 0) (.int 0) (.int 0) (.int 0) (.int 0) from cput_water]
    generalize hH2 : upd (upd H1 l1 (.lst (waters s))) x (.ins A.cPans dx (cF (.ref Pa.p.pl) (.ref l1) (.ref s0l) (.int 0) (.int 0) (.int 0) (.int 0) (.int 0))) = H2
    have x2 : H2 x = some (.ins A.cPans dx (cF (.ref Pa.p.pl) (.ref l1) (.ref s0l) (.int 0) (.int 0) (.int 0) (.int 0) (.int 0))) := by rw [← hH2]; exact upd_same
    have l2 : H2 l1 = some (.lst (waters s)) := by rw [← hH2, upd_ne (Ne.symm hxl1)]; exact upd_same
    have s2 : Same H H2 := fun b o e => by
      rw [← hH2, upd_ne (ne_of_none e nx), upd_ne (ne_of_none (s1 b o e) nl1)]
      exact s1 b o e
    -- found.salt = list(self.salt)
    refine val_sl T (hp.same s2) (val_var rfl) _ ⟨Pa.sl, _, rfl, .inl (SqL.of (hp.same s2).ls), fun l3 nl3 => ?_⟩
    have nl3' : H l3 = none := s2.free nl3
    have hxl3 : x ≠ l3 := ne_of_none x2 nl3
    have hl13 : l1 ≠ l3 := ne_of_none l2 nl3
    refine ⟨_, rfl, x, A.cPans, dx, _, rfl, (by rw [upd_ne hxl3]; exact x2), T.clPans, T.nPans_salt, (by show 8 < 1000; decide), ?_⟩
    rw [cput_salt]
    generalize hH3 : upd H2 l3 (.lst (salts s)) = H3
    have l33 : H3 l3 = some (.lst (salts s)) := by rw [← hH3]; exact upd_same
    have l31 : H3 l1 = some (.lst (waters s)) := by rw [← hH3, upd_ne hl13]; exact l2
    have s3 : Same H H3 := fun b o e => by
      rw [← hH3, upd_ne (ne_of_none (s2 b o e) nl3)]
      exact s2 b o e
    have hu : ∀ fs, PansAt A.cPans A.cPlan (upd H3 x (.ins A.cPans dx fs)) Pa s := fun fs => hp.same fun b o e => by rw [upd_ne (ne_of_none e nx)]; exact s3 b o e
    refine st_fld (val_store T (hu _) (val_var rfl)) (val_var rfl) upd_same T.clPans T.nPans_store (by show 8 < 1000; decide) ?_
    rw [upd_upd, cput_store]
    refine st_fld (val_away T (hu _) (val_var rfl)) (val_var rfl) upd_same T.clPans T.nPans_away (by show 8 < 1000; decide) ?_
    rw [upd_upd, cput_away]
    refine st_fld (val_drawn T (hu _) (val_var rfl)) (val_var rfl) upd_same T.clPans T.nPans_drawn (by show 8 < 1000; decide) ?_
    rw [upd_upd, cput_drawn]
    refine st_fld (val_came T (hu _) (val_var rfl)) (val_var rfl) upd_same T.clPans T.nPans_came (by show 8 < 1000; decide) ?_
    rw [upd_upd, cput_came]
    refine st_fld (val_gone T (hu _) (val_var rfl)) (val_var rfl) upd_same T.clPans T.nPans_gone_by (by show 8 < 1000; decide) ?_
    rw [upd_upd, cput_gone]
    refine ⟨_, rfl, ?_⟩
    have sF : Same H (upd H3 x (.ins A.cPans dx (cF (.ref Pa.p.pl) (.ref l1) (.ref l3) (.int s.store) (.int s.away) (.int s.drawn) (.int s.salted) (.int s.day)))) := fun b o e => by rw [upd_ne (ne_of_none e nx)]; exact s3 b o e
    refine q _ ⟨x, dx, l1, l3, Pa.p⟩ ⟨upd_same, ?_, ?_, hp.plan.keep fun b hb o e => sF b o e, hl13, fun b hb => ⟨hp.plan.ne nx b hb, hp.plan.ne nl1' b hb, hp.plan.ne nl3' b hb⟩⟩ rfl nx nl1' nl3' sF
    · rw [upd_ne (Ne.symm hxl1)]; exact l31
    · rw [upd_ne (Ne.symm hxl3)]; exact l33
end
end Sal
namespace Sal
open PySem PySem.Spec PyProof.Rows L2
open Mu17 (Works State Brine Deed Pan Day)
/-! ### calls as statements -/
section
variable {A : Ad} {H : Hp} {Pa : PaA} {s : State} {σ : L2.St} {to : TE} {D : Ends} {m : Str} {sp : Sp} {t : TA} {vs : List V} {i : Nat}
theorem st_setM (h : PansAt A.cPans A.cPlan H Pa s) (ho : Val to σ H (.ref Pa.a)) (hm : (["plan", "water", "salt", "store", "away", "drawn", "came", "gone_by"] : List Str).all (fun g => !(m == g)) = true) (ha : ValA t σ H vs)
    (q : sp (.ref Pa.a :: (vs ++ [])) H (fun v H1 => D.nx (σ.set i (some v)) H1) E0) : tAsg (tMeth A.cPans m sp [] E0 to t) (gName i) D σ H :=
  ho _ ⟨Pa.a, Pa.dx, _, rfl, h.obj, pF_none _ _ hm, ha _ q⟩
theorem st_retM (h : PansAt A.cPans A.cPlan H Pa s) (ho : Val to σ H (.ref Pa.a)) (hm : (["plan", "water", "salt", "store", "away", "drawn", "came", "gone_by"] : List Str).all (fun g => !(m == g)) = true) (ha : ValA t σ H vs)
    (q : sp (.ref Pa.a :: (vs ++ [])) H (fun v H1 => D.rt v H1) E0) : tRet (tMeth A.cPans m sp [] E0 to t) D σ H :=
  ho _ ⟨Pa.a, Pa.dx, _, rfl, h.obj, pF_none _ _ hm, ha _ q⟩
theorem st_setC (ha : ValA t σ H vs) (q : sp (vs ++ []) H (fun v H1 => D.nx (σ.set i (some v)) H1) E0) : tAsg (tCall sp [] E0 t) (gName i) D σ H := ha _ q
theorem st_retC (ha : ValA t σ H vs) (q : sp (vs ++ []) H (fun v H1 => D.rt v H1) E0) : tRet (tCall sp [] E0 t) D σ H := ha _ q
theorem st_dropC (ha : ValA t σ H vs) (q : sp (vs ++ []) H (fun v H1 => D.nx σ H1) E0) : tDrop (tCall sp [] E0 t) D σ H := ha _ q
end
/-! ### the promises of the answers -/
/-- a new list of numbers is answered; the pans go from s to s' -/
def Ansd (A : Ad) (H : Hp) (Pa : PaA) (s' : State) (ans : List Int) (Q : VK) : Prop :=
  ∀ H' p, PansAt A.cPans A.cPlan H' Pa s' → Keeps Pa.mine H H' → H p = none → H' p = some (.lst (ans.map V.int)) → Q (.ref p) H'
def spStanding (A : Ad) : Sp := fun vs H Q _ => ∃ (Pa : PaA) (s : State), vs = [.ref Pa.a] ∧ PansAt A.cPans A.cPlan H Pa s ∧ Ansd A H Pa s (Mu17.nums [s.day, s.store, s.away]) Q
def sunV : Option Nat → V
  | some n => .int n
  | none => .non
def spSunny (A : Ad) : Sp := fun vs H Q _ => ∃ (Pa : PaA) (s : State) (i : Nat), vs = [.ref Pa.a, .int i] ∧ PansAt A.cPans A.cPlan H Pa s ∧ WF s ∧ i < s.pans.length ∧ ∀ H', Same H H' → Q (sunV (Mu17.dry i 101 0 s)) H'
/-- what the specification's step makes of a call on a works -/
def Steps (A : Ad) (H : Hp) (Pa : PaA) (s : State) (c : Mu17.Call) (Q : VK) : Prop :=
  ∀ s' ans, Mu17.step (some s) c = (some s', ans) → WF s' → Ansd A H Pa s' ans Q
def spDo (A : Ad) : Sp := fun vs H Q _ => ∃ (Pa : PaA) (s : State) (d : Nat), vs = [.ref Pa.a, .int d] ∧ PansAt A.cPans A.cPlan H Pa s ∧ WF s ∧ Steps A H Pa s (.do_ d) Q
def spWait (A : Ad) : Sp := fun vs H Q _ => ∃ (Pa : PaA) (s : State) (n : Nat), vs = [.ref Pa.a, .int n] ∧ PansAt A.cPans A.cPlan H Pa s ∧ WF s ∧ Steps A H Pa s (.wait n) Q
def spSun (A : Ad) : Sp := fun vs H Q _ => ∃ (Pa : PaA) (s : State) (i : Nat), vs = [.ref Pa.a, .int i] ∧ PansAt A.cPans A.cPlan H Pa s ∧ WF s ∧ i < s.pans.length ∧ Steps A H Pa s (.sun i) Q
def spPour (A : Ad) : Sp := fun vs H Q _ => ∃ (Pa : PaA) (s : State) (i wa n : Nat), vs = [.ref Pa.a, .int i, .int wa, .int n] ∧ PansAt A.cPans A.cPlan H Pa s ∧ WF s ∧ i < s.pans.length ∧ Steps A H Pa s (.pour i wa n) Q
theorem lives_rest : ∀ (n : Nat) (s : State), Mu17.lives s (List.replicate (n + 1) .rest) = Mu17.live (Mu17.lives s (List.replicate n .rest)) .rest
  | 0, s => rfl
  | n + 1, s => lives_rest n (Mu17.live s .rest)
theorem lives_wf : ∀ (l : List Deed) {s : State}, WF s → WF (Mu17.lives s l)
  | [], s, w => w
  | d :: l, s, w => lives_wf l (live_wf w d)
theorem lives_len : ∀ (l : List Deed) {s : State}, WF s → (Mu17.lives s l).pans.length = s.pans.length
  | [], s, w => rfl
  | d :: l, s, w => (lives_len l (live_wf w d)).trans (live_len s d w.ln)
section
variable {P : Program} {w : World} {K : PySem.W.Frag} {mg : Str → Option Value} {base : Heap} {A : Ad}
theorem ok_standing (T : Txt K mg A) : FnOk P w K mg base CX0 2 A.f_standing A.d_standing ["pans"] (spStanding A) := by
  refine T.F_standing.ok sc_standing (fun vs H Q E h => ?_) (fun cdv Ar outer s H vs Q E hr h => ⟨_, pss_one (ps_ret (pe_slice sl_list (pe_meth0 (pv 0) T.clPans T.m_sums (ok_sums T) hr T.b_sums .nil pass0) po_none (po_some pe_int))), ?_⟩)
  · obtain ⟨_, _, rfl, _⟩ := h
    rfl
  · obtain ⟨Pa, s, rfl, hp, q⟩ := h
    refine ⟨_, rfl, Pa.a, Pa.dx, _, rfl, hp.obj, pF_none _ _ (by decide +kernel), Pa, s, rfl, hp, fun p1 n1 => ?_⟩
    refine ⟨_, rfl, p1, _, rfl, SqL.of upd_same, fun p2 n2 => ?_⟩
    have hne : p2 ≠ p1 := fun z => by rw [z, upd_same] at n2; cases n2
    have n2' : H p2 = none := by rw [upd_ne hne] at n2; exact n2
    exact q _ p2 ((hp.new n1).new n2) ((Keeps.new n1).trans (Keeps.new n2)) n2' upd_same
theorem ok_sunny (T : Txt K mg A) : FnOk P w K mg base CX0 6 A.f_sunny A.d_sunny ["pans", "i"] (spSunny A) := by
  refine T.F_sunny.ok sc_sunny (fun vs H Q E h => ?_) (fun cdv Ar outer s H vs Q E hr h => ⟨_, pss_cons (ps_set (i := 2) sc_sunny.nd rfl (Or.inl rfl) (pe_meth0 (pv 0) T.clPans T.m_copied (ok_copied T) (hr.mono (by decide)) T.b_copied .nil pass0))
    (pss_cons (ps_for PassesOwn.never rfl (pi_range1 rfl T.brange (pa_cons (pe_op op_add (pe_ci rfl T.kMOST_DAYS_looking) pe_int) pa_nil)) (pg_name (i := 3) sc_sunny.nd rfl (Or.inl rfl))
      (pss_cons (ps_if (pt_cmpR op_eq (pe_ix ix_list (pe_fld (pv 2) rfl) (pv 1) (fun _ _ => rfl)) pe_int (nomark _)) (pss_one (ps_ret (pv 3))) pss_nil)
      (pss_one (ps_expr (pe_meth (pv 2) T.clPans T.m_day (ok_day T) hr T.b_day .nil pass0 (pa_cons (pe_ci rfl T.kREST) pa_nil))))))
    (pss_one (ps_ret pe_non))), ?_⟩)
  · obtain ⟨_, _, _, rfl, _⟩ := h
    rfl
  · obtain ⟨Pa, s, i, rfl, hp, wf, hi, q⟩ := h
    have h3 : s.works.pans.length ≤ 3 := wf.wk.np
    refine st_setM hp (val_var rfl) (by decide +kernel) va_nil ⟨Pa, s, rfl, hp, h3, fun H1 Pb hb _ na nw ns s1 => ?_⟩
    have hnew : ∀ b ∈ Pb.mine, H b = none := by
      intro b hb
      unfold PaA.mine at hb
      rw [List.mem_cons, List.mem_cons, List.mem_singleton] at hb
      rcases hb with rfl | rfl | rfl
      · exact na
      · exact nw
      · exact ns
    have hk : ∀ H1 H2 : Hp, Same H H1 → Keeps Pb.mine H1 H2 → Same H H2 := fun H1 H2 a k b o e => k b o (a b o e) fun z => by rw [hnew b z] at e; cases e
    refine st_forR (n := 101) (val_to (val_I0 val_c val_c) rfl) (by omega) (fun k σ H' => ∃ (v : Option V) (u : State), σ = [some (.ref Pa.a), some (.int i), some (.ref Pb.a), v] ∧ PansAt A.cPans A.cPlan H' Pb u ∧ WF u ∧ u.pans.length = s.pans.length ∧ Same H H' ∧ Mu17.dry i 101 0 s = Mu17.dry i (101 - k) k u)
      ⟨none, s, rfl, hb, wf, rfl, s1, rfl⟩ ?_ ?_
    · rintro k σ H2 hlt ⟨v, u, rfl, hu, wu, lu, su, eq⟩
      have hiu : i < u.pans.length := by rw [lu]; exact hi
      obtain ⟨j, hj⟩ : ∃ j, 101 - k = j + 1 := ⟨100 - k, by omega⟩
      rw [hj] at eq
      have ed : Mu17.dry i (j + 1) k u = if (Mu17.at_ u i).water = 0 then some k else Mu17.dry i j (k + 1) (Mu17.pass u) := rfl
      rw [ed] at eq
      refine st_if (b := decide ((Mu17.at_ u i).water = 0)) (an_eqI (val_water T hu hiu (val_var rfl) (val_var rfl)) val_c ?_) (fun e => ?_) (fun e => ?_)
      · by_cases z : (Mu17.at_ u i).water = 0
        · rw [decide_eq_true z]; exact decide_eq_true (by omega)
        · rw [decide_eq_false z]; exact decide_eq_false (by omega)
      · rw [if_pos (of_decide_eq_true e)] at eq
        refine ⟨_, rfl, ?_⟩
        have q' := q H2 su
        rw [eq] at q'
        exact q'
      · rw [if_neg (of_decide_eq_false e)] at eq
        refine st_next ?_
        refine st_meth hu (val_var rfl) (by decide +kernel) (va_cons val_c va_nil) ⟨Pb, u, 0, rfl, hu, wu, by omega, fun H3 hu3 k3 => ?_⟩
        refine ⟨_, _, rfl, hu3, live_wf wu _, (live_len u _ wu.ln).trans lu, hk H2 H3 su k3, ?_⟩
        rw [eq, show 101 - (k + 1) = j by omega]
        rfl
    · rintro σ H2 ⟨v, u, rfl, hu, wu, lu, su, eq⟩
      have q' := q H2 su
      rw [eq] at q'
      exact q'
theorem ok_do_ (T : Txt K mg A) : FnOk P w K mg base CX0 6 A.f_do_ A.d_do_ ["pans", "d"] (spDo A) := by
  refine T.F_do_.ok sc_do_ (fun vs H Q E h => ?_) (fun cdv Ar outer s H vs Q E hr h => ⟨_, pss_cons (ps_if (pt_cmpR op_ge (pv 1) (pe_meth0 (pv 0) T.clPans T.m_deeds (ok_deeds T) (hr.mono (by decide)) T.b_deeds .nil pass0) (nomark _)) (pss_one (ps_ret (pe_lst (pa_cons (pe_ci rfl T.kNOT_SO) pa_nil)))) pss_nil)
    (pss_cons (ps_expr (pe_meth (pv 0) T.clPans T.m_day (ok_day T) hr T.b_day .nil pass0 (pa_cons (pv 1) pa_nil)))
    (pss_one (ps_ret (pe_call (ok_standing T) (hr.mono (by decide)) rfl T.g_standing T.F_standing.kp T.b_standing .nil pass0 (pa_cons (pv 0) pa_nil))))), ?_⟩)
  · obtain ⟨_, _, _, rfl, _⟩ := h
    rfl
  · obtain ⟨Pa, s, d, rfl, hp, wf, q⟩ := h
    by_cases hd : s.pans.length + 2 < d
    · refine st_yes (an_ge (val_var rfl) (val_deeds hp (val_var rfl)) (decide_eq_true (by omega))) ?_
      refine st_retL (va_cons val_c va_nil) (by show 1 ≤ 1000; decide) fun p hn => ?_
      exact q s [-1] (if_pos hd) wf _ p (hp.new hn) (Keeps.new hn) hn upd_same
    · refine st_no (an_ge (b := false) (val_var rfl) (val_deeds hp (val_var rfl)) (decide_eq_false (by omega))) (st_next ?_)
      refine st_meth hp (val_var rfl) (by decide +kernel) (va_cons (val_var rfl) va_nil) ⟨Pa, s, d, rfl, hp, wf, by omega, fun H1 hp1 k1 => ?_⟩
      refine st_retC (va_cons (val_var rfl) va_nil) ⟨Pa, _, rfl, hp1, fun H2 p hp2 k2 hn h2 => ?_⟩
      have hn' : H p = none := k1.free hn (fun z => by
        obtain ⟨o, e⟩ := hp1.has p (by unfold PaA.mine at z; unfold PaA.all; simp at z ⊢; rcases z with z | z | z <;> simp [z])
        rw [hn] at e; cases e)
      exact q _ _ (if_neg hd) (live_wf wf _) H2 p hp2 (k1.trans k2) hn' h2
theorem mine_free {H H1 : Hp} {Pa : PaA} {s : State} {p : Addr} (hp1 : PansAt A.cPans A.cPlan H1 Pa s) (k1 : Keeps Pa.mine H H1) (hn : H1 p = none) : H p = none := k1.free hn (fun z => by
  obtain ⟨o, e⟩ := hp1.has p (by unfold PaA.mine at z; unfold PaA.all; simp at z ⊢; rcases z with z | z | z <;> simp [z])
  rw [hn] at e; cases e)
theorem ok_wait (T : Txt K mg A) : FnOk P w K mg base CX0 6 A.f_wait A.d_wait ["pans", "n"] (spWait A) := by
  refine T.F_wait.ok sc_wait (fun vs H Q E h => ?_) (fun cdv Ar outer s H vs Q E hr h => ⟨_, pss_cons (ps_if (pt_cmpR op_gt (pv 1) (pe_ci rfl T.kMOST_WAIT) (nomark _)) (pss_one (ps_ret (pe_lst (pa_cons (pe_ci rfl T.kNOT_SO) pa_nil)))) pss_nil)
    (pss_cons (ps_for PassesOwn.never rfl (pi_range1 rfl T.brange (pa_cons (pv 1) pa_nil)) (pg_name (i := 2) sc_wait.nd rfl (Or.inl rfl))
      (pss_one (ps_expr (pe_meth (pv 0) T.clPans T.m_day (ok_day T) hr T.b_day .nil pass0 (pa_cons (pe_ci rfl T.kREST) pa_nil)))))
    (pss_one (ps_ret (pe_call (ok_standing T) (hr.mono (by decide)) rfl T.g_standing T.F_standing.kp T.b_standing .nil pass0 (pa_cons (pv 0) pa_nil))))), ?_⟩)
  · obtain ⟨_, _, _, rfl, _⟩ := h
    rfl
  · obtain ⟨Pa, s, n, rfl, hp, wf, q⟩ := h
    by_cases hd : 100 < n
    · refine st_yes (an_gt (val_var rfl) val_c (decide_eq_true (by omega))) ?_
      refine st_retL (va_cons val_c va_nil) (by show 1 ≤ 1000; decide) fun p hn => ?_
      exact q s [-1] (if_pos hd) wf _ p (hp.new hn) (Keeps.new hn) hn upd_same
    · refine st_no (an_gt (b := false) (val_var rfl) val_c (decide_eq_false (by omega))) (st_next ?_)
      refine st_forR (n := n) (val_var rfl) (by omega) (fun k σ H' => ∃ v : Option V, σ = [some (.ref Pa.a), some (.int n), v] ∧ PansAt A.cPans A.cPlan H' Pa (Mu17.lives s (List.replicate k .rest)) ∧ Keeps Pa.mine H H')
        ⟨none, rfl, hp, Keeps.refl⟩ ?_ ?_
      · rintro k σ H1 hlt ⟨v, rfl, hp1, k1⟩
        have wk := lives_wf (List.replicate k .rest) wf
        refine st_meth hp1 (val_var rfl) (by decide +kernel) (va_cons val_c va_nil) ⟨Pa, _, 0, rfl, hp1, wk, by omega, fun H2 hp2 k2 => ?_⟩
        refine ⟨_, rfl, ?_, k1.trans k2⟩
        rw [lives_rest]
        exact hp2
      · rintro σ H1 ⟨v, rfl, hp1, k1⟩
        refine st_retC (D := { nx := fun _ H' => Q .non H', rt := Q }) (va_cons (val_var rfl) va_nil) ⟨Pa, _, rfl, hp1, fun H2 p hp2 k2 hn h2 => ?_⟩
        exact q _ _ (if_neg hd) (lives_wf _ wf) H2 p hp2 (k1.trans k2) (mine_free hp1 k1 hn) h2
theorem ok_sun (T : Txt K mg A) : FnOk P w K mg base CX0 7 A.f_sun A.d_sun ["pans", "i"] (spSun A) := by
  refine T.F_sun.ok sc_sun (fun vs H Q E h => ?_) (fun cdv Ar outer s H vs Q E hr h => ⟨_, pss_cons (ps_set (i := 2) sc_sun.nd rfl (Or.inl rfl) (pe_call (ok_sunny T) hr rfl T.g_sunny T.F_sunny.kp T.b_sunny .nil pass0 (pa_cons (pv 0) (pa_cons (pv 1) pa_nil))))
    (pss_cons (ps_if (pt_cmpR op_isN1 (pv 2) pe_non (nomark _)) (pss_one (ps_ret (pe_lst (pa_cons (pe_ci rfl T.kNOT_GONE) pa_nil)))) pss_nil)
    (pss_one (ps_ret (pe_lst (pa_cons (pv 2) pa_nil))))), ?_⟩)
  · obtain ⟨_, _, _, rfl, _⟩ := h
    rfl
  · obtain ⟨Pa, s, i, rfl, hp, wf, hi, q⟩ := h
    refine st_setC (va_cons (val_var rfl) (va_cons (val_var rfl) va_nil)) ⟨Pa, s, i, rfl, hp, wf, hi, fun H1 s1 => ?_⟩
    have e : Mu17.step (some s) (.sun i) = (some s, match Mu17.dry i 101 0 s with | some n => [(n : Int)] | none => [-6]) := by
      show (some s, if s.pans.length ≤ i then [-2] else _) = _
      rw [if_neg (by omega)]
      cases Mu17.dry i 101 0 s <;> rfl
    cases hd : Mu17.dry i 101 0 s with
    | none =>
      rw [hd] at e
      refine st_yes (ans_isN (val_var rfl) (decide_eq_true rfl)) ?_
      refine st_retL (va_cons val_c va_nil) (by show 1 ≤ 1000; decide) fun p hn => ?_
      exact q s [-6] e wf _ p ((hp.same s1).new hn) ((Keeps.of_same s1).trans (Keeps.new hn)) (s1.free hn) upd_same
    | some n =>
      rw [hd] at e
      refine st_no (ans_isN (b := false) (val_var rfl) (decide_eq_false fun z => by cases z)) (st_next ?_)
      refine st_retL (D := { nx := fun _ H' => Q .non H', rt := Q }) (va_cons (val_var rfl) va_nil) (by show 1 ≤ 1000; decide) fun p hn => ?_
      exact q s [(n : Int)] e wf _ p ((hp.same s1).new hn) ((Keeps.of_same s1).trans (Keeps.new hn)) (s1.free hn) upd_same
theorem ok_pour (T : Txt K mg A) : FnOk P w K mg base CX0 3 A.f_pour A.d_pour ["pans", "i", "w", "s"] (spPour A) := by
  refine T.F_pour.ok sc_pour (fun vs H Q E h => ?_) (fun cdv Ar outer s H vs Q E hr h => ⟨_, pss_cons (ps_if (PW.pt (pw_or (pt_cmpR op_gt (pv 2) (pe_meth (pv 0) T.clPans T.m_room (ok_room T) (hr.mono (by decide)) T.b_room .nil pass0 (pa_cons (pv 1) pa_nil)) (nomark _)) (pw_or1 (pt_cmpR op_gt (pv 3) (pe_ci rfl T.kMOST_SALT) (nomark _))))) (pss_one (ps_ret (pe_lst (pa_cons (pe_ci rfl T.kNOT_SO) pa_nil)))) pss_nil)
    (pss_cons (ps_expr (pe_meth (pv 0) T.clPans T.m_pPour (ok_pPour T) (hr.mono (by decide)) T.b_pPour .nil pass0 (pa_cons (pv 1) (pa_cons (pv 2) (pa_cons (pv 3) pa_nil)))))
    (pss_one (ps_ret (pe_meth (pv 0) T.clPans T.m_told (ok_told T) hr T.b_told .nil pass0 (pa_cons (pv 1) pa_nil))))), ?_⟩)
  · obtain ⟨_, _, _, _, _, rfl, _⟩ := h
    rfl
  · obtain ⟨Pa, s, i, wa, n, rfl, hp, wf, hi, q⟩ := h
    have hwl := wf.wl i
    have e0 : Mu17.step (some s) (.pour i wa n) = if (Mu17.panOf s i).holds < (Mu17.at_ s i).water + wa ∨ 9999 < n then (some s, [-1]) else (some (pourN s i wa n), Mu17.nums [(Mu17.at_ (pourN s i wa n) i).water, Mu17.melted (Mu17.at_ (pourN s i wa n) i), Mu17.fallen (Mu17.at_ (pourN s i wa n) i)]) := by
      show (if s.pans.length ≤ i then _ else _) = _
      rw [if_neg (by omega)]
      rfl
    have t1 : Ans (tTest (tOp (rI0 fun i j => .bl (decide (j < i))) (tVar 2) (tMeth A.cPans "room" (spRoom A) [] E0 (tVar 0) (tCons (tVar 1) tNil)))) (start ["pans", "i", "w", "s"] [.ref Pa.a, .int i, .int wa, .int n]) H (decide ((Mu17.panOf s i).holds < (Mu17.at_ s i).water + wa)) := by
      refine an_gt (val_var rfl) (val_room hp hi wf.ln (val_var rfl) (val_var rfl)) ?_
      by_cases z : (Mu17.panOf s i).holds < (Mu17.at_ s i).water + wa
      · rw [decide_eq_true z]; exact decide_eq_true (by omega)
      · rw [decide_eq_false z]; exact decide_eq_false (by omega)
    have t2 : Ans (tTest (tOp (rI0 fun i j => .bl (decide (j < i))) (tVar 3) (tC (.int 9999)))) (start ["pans", "i", "w", "s"] [.ref Pa.a, .int i, .int wa, .int n]) H (decide (9999 < n)) := by
      refine an_gt (val_var rfl) val_c ?_
      by_cases z : 9999 < n
      · rw [decide_eq_true z]; exact decide_eq_true (by omega)
      · rw [decide_eq_false z]; exact decide_eq_false (by omega)
    by_cases hd : (Mu17.panOf s i).holds < (Mu17.at_ s i).water + wa ∨ 9999 < n
    · rw [if_pos hd] at e0
      have ht : ∃ tt : Bool, tt = true ∧ True := ⟨true, rfl, trivial⟩
      refine st_yes ?_ ?_
      · by_cases h1 : (Mu17.panOf s i).holds < (Mu17.at_ s i).water + wa
        · rw [decide_eq_true h1] at t1
          exact ans_or1 t1
        · rw [decide_eq_false h1] at t1
          rw [decide_eq_true (hd.resolve_left h1)] at t2
          exact ans_or t1 t2
      · refine st_retL (va_cons val_c va_nil) (by show 1 ≤ 1000; decide) fun p hn => ?_
        exact q s [-1] e0 wf _ p (hp.new hn) (Keeps.new hn) hn upd_same
    · rw [if_neg hd] at e0
      have h1 : ¬ (Mu17.panOf s i).holds < (Mu17.at_ s i).water + wa := fun z => hd (.inl z)
      have h2 : ¬ 9999 < n := fun z => hd (.inr z)
      rw [decide_eq_false h1] at t1
      rw [decide_eq_false h2] at t2
      refine st_no (ans_or t1 t2) (st_next ?_)
      refine st_meth hp (val_var rfl) (by decide +kernel) (va_cons (val_var rfl) (va_cons (val_var rfl) (va_cons (val_var rfl) va_nil))) ⟨Pa, s, i, wa, n, rfl, hp, hi, fun H1 hp1 k1 => ?_⟩
      have hi1 : i < (pourN s i wa n).pans.length := by
        show i < (s.pans.set i _).length
        rw [List.length_set]; exact hi
      refine st_retM hp1 (val_var rfl) (by decide +kernel) (va_cons (val_var rfl) va_nil) ⟨Pa, _, i, rfl, hp1, hi1, fun p hn => ?_⟩
      exact q _ _ e0 (pour_wf wf hi (by omega)) _ p (hp1.new hn) (k1.trans (Keeps.new hn)) (mine_free hp1 k1 hn) upd_same
end
end Sal
namespace Sal
open PySem PySem.Spec PyProof.Rows L2
/-! ### values whose making may lay new objects -/
def ValS (te : TE) (σ : L2.St) (H : Hp) (v : V) : Prop := ∀ Q : VK, (∀ H', Same H H' → Q v H') → te σ H Q
def AnsS (tt : TT) (σ : L2.St) (H : Hp) (b : Bool) : Prop := ∀ Q : Bool → Hp → Prop, (∀ H', Same H H' → Q b H') → tt σ H Q
section
variable {σ : L2.St} {H : Hp} {v x y z : V} {ta tb te tl tc : TE} {tt uu : TT} {K : PySem.W.Frag} {a b : Bool} {D : Ends} {t1 t2 : TS}
theorem vs_of (h : Val te σ H v) : ValS te σ H v := fun _ q => h _ (q H (Same.refl H))
theorem as_of (h : Ans tt σ H b) : AnsS tt σ H b := fun _ q => h _ (q H (Same.refl H))
theorem as_test (h : ValS te σ H (.bl b)) : AnsS (tTest te) σ H b := fun _ q => h _ fun H' s => ⟨b, rfl, q H' s⟩
theorem as_val (h : ValS te σ H (.bl b)) : AnsS (tB te) σ H b := fun _ q => h _ fun H' s => ⟨b, rfl, q H' s⟩
theorem as_not (h : AnsS tt σ H b) : AnsS (tNot tt) σ H (!b) := fun _ q => h _ q
theorem as_to {b' : Bool} (h : AnsS tt σ H b) (e : b = b') : AnsS tt σ H b' := e ▸ h
theorem vs_to {v' : V} (h : ValS te σ H v) (e : v = v') : ValS te σ H v' := e ▸ h
theorem as_or (h1 : AnsS tt σ H a) (h2 : a = false → ∀ H', Same H H' → AnsS uu σ H' b) : AnsS (tOr tt uu) σ H (a || b) := fun Q q => h1 _ fun H1 s1 => by
  cases a with
  | true =>
    show Q true H1
    exact q H1 s1
  | false =>
    show uu σ H1 Q
    exact h2 rfl H1 s1 _ fun H2 s2 => q H2 (s1.trans s2)
theorem as_and (h1 : AnsS tt σ H a) (h2 : a = true → ∀ H', Same H H' → AnsS uu σ H' b) : AnsS (tAnd tt uu) σ H (a && b) := fun Q q => h1 _ fun H1 s1 => by
  cases a with
  | false =>
    show Q false H1
    exact q H1 s1
  | true =>
    show uu σ H1 Q
    exact h2 rfl H1 s1 _ fun H2 s2 => q H2 (s1.trans s2)
theorem vs_and (h1 : ValS ta σ H (.bl a)) (h2 : a = true → ∀ H', Same H H' → ValS tb σ H' (.bl b)) : ValS (tAndV ta tb) σ H (.bl (a && b)) := fun Q q => h1 _ fun H1 s1 => by
  refine ⟨a, rfl, ?_⟩
  cases a with
  | false =>
    show Q (.bl false) H1
    exact q H1 s1
  | true =>
    show tb σ H1 Q
    exact h2 rfl H1 s1 _ fun H2 s2 => q H2 (s1.trans s2)
theorem vs_or (h1 : ValS ta σ H (.bl a)) (h2 : a = false → ∀ H', Same H H' → ValS tb σ H' (.bl b)) : ValS (tOrV ta tb) σ H (.bl (a || b)) := fun Q q => h1 _ fun H1 s1 => by
  refine ⟨a, rfl, ?_⟩
  cases a with
  | true =>
    show Q (.bl true) H1
    exact q H1 s1
  | false =>
    show tb σ H1 Q
    exact h2 rfl H1 s1 _ fun H2 s2 => q H2 (s1.trans s2)
/-- a <= b <= c -/
theorem val_chain {i j k : Int} (ha : Val ta σ H (.int i)) (hb : Val tb σ H (.int j)) (hc : Val tc σ H (.int k)) : Val (tChain (rI0 fun i j => .bl (decide (i ≤ j))) (rI0 fun i j => .bl (decide (i ≤ j))) ta tb tc) σ H (.bl (decide (i ≤ j) && decide (j ≤ k))) := fun Q q => by
  refine ha _ (hb _ ⟨i, j, rfl, rfl, decide (i ≤ j), rfl, ?_⟩)
  cases h : decide (i ≤ j) with
  | false =>
    rw [h] at q
    exact iteF q
  | true =>
    rw [h] at q
    exact iteT (hc _ ⟨j, k, rfl, rfl, q⟩)
/-- statements -/
theorem ss_if (h : AnsS tt σ H b) (q1 : b = true → ∀ H', Same H H' → t1 D σ H') (q2 : b = false → ∀ H', Same H H' → t2 D σ H') : tIfS tt t1 t2 D σ H := h _ fun H' s => by
  cases b with
  | true => exact iteT (q1 rfl H' s)
  | false => exact iteF (q2 rfl H' s)
theorem ss_ret (h : ValS te σ H v) (q : ∀ H', Same H H' → D.rt v H') : tRet te D σ H := h _ q
theorem ss_set {i : Nat} (h : ValS te σ H v) (q : ∀ H', Same H H' → D.nx (σ.set i (some v)) H') : tAsg te (gName i) D σ H := h _ q
/-! ### a comprehension over a list -/
theorem wipe1 {k : Nat} {x : V} : wipe ((wipe σ [k]).set k (some x)) [k] = wipe σ [k] := by
  show ((σ.set k none).set k (some x)).set k none = σ.set k none
  rw [List.set_set, List.set_set]
theorem take_more {α : Type} {l : List α} {i : Nat} {x : α} (h : l[i]? = some x) : l.take (i + 1) = l.take i ++ [x] := by
  rw [List.take_succ, h]; rfl
theorem lc_pure {k : Nat} {ad : Addr} {xs : List V} (p : V → Bool) (f : V → V) (hl : Val tl σ H (.ref ad)) (hs : SqL K H ad xs) (hn : xs.length ≤ 100000)
    (ht : ∀ x ∈ xs, ∀ H', Same H H' → AnsS tt ((wipe σ [k]).set k (some x)) H' (p x)) (he : ∀ x ∈ xs, p x = true → ∀ H', Same H H' → ValS te ((wipe σ [k]).set k (some x)) H' (f x)) {Q : VK}
    (q : ∀ D H', H D = none → Same H H' → H' D = some (.lst ((xs.filter p).map f)) → Q (.ref D) H') : tLc (iList K tl) (gName k) tt te [k] σ H Q := by
  refine hl _ ⟨ad, rfl, ⟨_, hs⟩, fun D nD => ?_⟩
  refine lc_list (K := K) (a := ad) (xs := xs) (fun i H' => Same H H' ∧ H' D = some (.lst (((xs.take i).filter p).map f))) ⟨(Keeps.new (S := []) nD).same, upd_same⟩ (fun i H' _ h => h.1.seq hs) ?_ ?_
  · rintro i x H1 hx ⟨s1, d1⟩
    have hm := List.mem_of_getElem? hx
    refine ⟨wipe1, ?_⟩
    refine ht x hm H1 s1 _ fun H2 s2 => ?_
    have hlen : ((xs.take i).filter p).length ≤ 100000 := Nat.le_trans (List.length_filter_le _ _) (Nat.le_trans (List.length_take_le _ _) (by
      have := (List.getElem?_eq_some_iff.mp hx).1
      omega))
    cases hp : p x with
    | true =>
      refine iteT ?_
      refine he x hm hp H2 (s1.trans s2) _ fun H3 s3 => ?_
      refine ⟨_, s3 _ _ (s2 _ _ d1), ?_, ?_, ?_⟩
      · rw [List.length_map]
        exact Nat.lt_of_le_of_lt hlen (by decide)
      · intro b o e
        rw [upd_ne (ne_of_none e nD)]
        exact s3 _ _ (s2 _ _ (s1 b o e))
      · rw [upd_same, take_more hx, List.filter_append, List.map_append]
        rw [show ([x].filter p).map f = [f x] by rw [List.filter_cons_of_pos hp]; rfl]
    | false =>
      refine iteF ⟨s1.trans s2, ?_⟩
      rw [take_more hx, List.filter_append, List.map_append]
      rw [show ([x].filter p).map f = [] by rw [List.filter_cons_of_neg (by rw [hp]; simp)]; rfl]
      rw [List.append_nil]
      exact s2 _ _ d1
  · rintro H1 ⟨s1, d1⟩
    rw [List.take_length] at d1
    exact q D H1 nD s1 d1
theorem filter_all {α : Type} (l : List α) : l.filter (fun _ => true) = l := List.filter_eq_self.mpr fun _ _ => rfl
/-- all([..]) -/
theorem vs_all {k : Nat} {ad : Addr} {xs : List V} (f : V → Bool) (hl : Val tl σ H (.ref ad)) (hs : SqL K H ad xs) (hn : xs.length ≤ 100000)
    (he : ∀ x ∈ xs, ∀ H', Same H H' → ValS te ((wipe σ [k]).set k (some x)) H' (.bl (f x))) : ValS (tCB (rAll K) (tCons (tLc (iList K tl) (gName k) tYes te [k]) tNil)) σ H (.bl (xs.all f)) := fun Q q => by
  show tLc (iList K tl) (gName k) tYes te [k] σ H fun x H1 => rAll K [x] H1 Q
  refine lc_pure (tt := tYes) (fun _ => true) (fun x => .bl (f x)) hl hs hn (fun x _ H' _ Q q => q H' (Same.refl H')) (fun x hx _ H' s => he x hx H' s) fun D H' _ s d => ?_
  rw [filter_all] at d
  refine ⟨D, xs.map f, rfl, ?_, ?_⟩
  · rw [List.map_map]
    exact SqL.of d
  · rw [List.all_map]
    exact q H' s
end
end Sal
namespace Sal
open PySem PySem.Spec PyProof.Rows L2
open Mu17 (Works State Brine Deed Pan Day)
/-! ### the finder in the heap -/
def iv (l : List Nat) : List V := l.map fun (n : Nat) => V.int (n : Int)
theorem iv_len (l : List Nat) : (iv l).length = l.length := List.length_map _
def fF (F : Fnd) (r : Addr) : List (Str × V) := [("store", .int F.store), ("many", .int F.many), ("row", .ref r)]
structure FindAt (C : Addr) (H : Hp) (x dx r : Addr) (F : Fnd) : Prop where
  obj : H x = some (.ins C dx (fF F r))
  row : H r = some (.lst (iv F.row))
theorem FindAt.keep {C : Addr} {H H' : Hp} {x dx r : Addr} {F : Fnd} (h : FindAt C H x dx r F) (k : ∀ b o, (b = x ∨ b = r) → H b = some o → H' b = some o) : FindAt C H' x dx r F := ⟨k _ _ (.inl rfl) h.obj, k _ _ (.inr rfl) h.row⟩
theorem FindAt.same {C : Addr} {H H' : Hp} {x dx r : Addr} {F : Fnd} (h : FindAt C H x dx r F) (k : Same H H') : FindAt C H' x dx r F := h.keep fun b o _ e => k b o e
theorem fF_store (F : Fnd) (r : Addr) : (fF F r).lookup ("store" : Str) = some (.int F.store) := lk_here
theorem fF_many (F : Fnd) (r : Addr) : (fF F r).lookup ("many" : Str) = some (.int F.many) := (lk_past (by decide +kernel)).trans lk_here
theorem fF_row (F : Fnd) (r : Addr) : (fF F r).lookup ("row" : Str) = some (.ref r) := (lk_past (by decide +kernel)).trans ((lk_past (by decide +kernel)).trans lk_here)
theorem fF_none (F : Fnd) (r : Addr) {m : Str} (h : (["store", "many", "row"] : List Str).all (fun g => !(m == g)) = true) : (fF F r).lookup m = none := lk_none h
def spFInit (A : Ad) : Sp := fun vs H Q _ => ∃ (x dx : Addr), vs = [.ref x] ∧ H x = some (.ins A.cFinder dx []) ∧ ∀ H' r, H r = none → FindAt A.cFinder H' x dx r ⟨-1, 0, []⟩ → Keeps [x] H H' → Q .non H'
def spKeep (A : Ad) : Sp := fun vs H Q _ => ∃ (x dx r dl : Addr) (F : Fnd) (st : Nat) (row : List Nat), vs = [.ref x, .int st, .ref dl] ∧ FindAt A.cFinder H x dx r F ∧ H dl = some (.lst (iv row)) ∧ row.length ≤ 1000 ∧
  ∀ H' r', FindAt A.cFinder H' x dx r' (F.keep st row) → Keeps [x] H H' → Q .non H'
def spLook (A : Ad) (n : Nat) : Sp := fun vs H Q _ => ∃ (x dx r dl : Addr) (F : Fnd) (Pa : PaA) (s : State) (pre : List Nat), vs = [.ref x, .ref Pa.a, .ref dl, .int n] ∧ FindAt A.cFinder H x dx r F ∧ PansAt A.cPans A.cPlan H Pa s ∧ WF s ∧ H dl = some (.lst (iv pre)) ∧ pre.length + n ≤ 1000 ∧ x ∉ Pa.all ∧
  ∀ H' r', FindAt A.cFinder H' x dx r' (lookM n s pre F) → Keeps [x] H H' → Q .non H'
def spBest (A : Ad) : Sp := fun vs H Q _ => ∃ (Pa : PaA) (s : State) (n : Nat), vs = [.ref Pa.a, .int n] ∧ PansAt A.cPans A.cPlan H Pa s ∧ WF s ∧ n ≤ 5 ∧
  ∀ H' p, Same H H' → H p = none → H' p = some (.lst ((Mu17.nums ((Mu17.lives s (Mu17.best s n)).store :: (Mu17.best s n).map Mu17.codeOf)).map V.int)) → Q (.ref p) H'
def spBestTold (A : Ad) : Sp := fun vs H Q _ => ∃ (Pa : PaA) (s : State) (n : Nat), vs = [.ref Pa.a, .int n] ∧ PansAt A.cPans A.cPlan H Pa s ∧ WF s ∧ Steps A H Pa s (.best n) Q
theorem plans_len (l : List Deed) : ∀ (n : Nat) (r : List Deed), r ∈ Mu17.plans l n → r.length = n
  | 0, r, h => by
    have h' : r ∈ ([[]] : List (List Deed)) := h
    rw [List.mem_singleton] at h'
    rw [h']
    rfl
  | n + 1, r, h => by
    have h' : r ∈ l.flatMap fun (d : Deed) => (Mu17.plans l n).map fun (r : List Deed) => d :: r := h
    obtain ⟨d, _, h2⟩ := List.mem_flatMap.mp h'
    obtain ⟨r', h3, e⟩ := List.mem_map.mp h2
    rw [← e, List.length_cons, plans_len l n r' h3]
theorem best_len (s : State) (n : Nat) : (Mu17.best s n).length = n := by
  have main : ∀ (L : List (List Deed)) (m : List Deed), m.length = n → (∀ r ∈ L, r.length = n) → (L.foldl (fun (m : List Deed) (a : List Deed) => if Mu17.betterOf s a m = true then a else m) m).length = n := by
    intro L
    induction L with
    | nil => intro m h _; exact h
    | cons a L ih =>
      intro m h h2
      rw [List.foldl_cons]
      refine ih _ ?_ fun r hr => h2 r (List.mem_cons_of_mem _ hr)
      split
      · exact h2 a List.mem_cons_self
      · exact h
  exact main _ _ (List.length_replicate) fun r hr => plans_len _ n r hr
section
variable {P : Program} {w : World} {K : PySem.W.Frag} {mg : Str → Option Value} {base : Heap} {A : Ad}
theorem ok_fInit (T : Txt K mg A) : FnOk P w K mg base CX0 1 A.f_fInit A.d_fInit ["self"] (spFInit A) := by
  refine T.F_fInit.ok sc_fInit (fun vs H Q E h => ?_) (fun cdv Ar outer s H vs Q E hr h => ⟨_, pss_cons (ps_fld (pv 0) (pe_un un_neg pe_int) rfl) (pss_cons (ps_fld (pv 0) pe_int rfl) (pss_one (ps_fld (pv 0) (pe_lst pa_nil) rfl))), ?_⟩)
  · obtain ⟨_, _, rfl, _⟩ := h
    rfl
  · obtain ⟨x, dx, rfl, hx, q⟩ := h
    refine ⟨1, rfl, _, rfl, x, A.cFinder, dx, _, rfl, hx, T.clFinder, T.nFinder_store, (by show 0 < 1000; decide), ?_⟩
    refine st_fld val_c (val_var rfl) upd_same T.clFinder T.nFinder_many (Nat.lt_of_le_of_lt (pl1 pl0) (by decide)) ?_
    rw [upd_upd]
    refine ⟨by show 0 ≤ sizeLine; decide, fun r nr => ?_⟩
    have hxr : x ≠ r := ne_of_none upd_same nr
    refine ⟨_, rfl, x, A.cFinder, dx, _, rfl, (by rw [upd_ne hxr]; exact upd_same), T.clFinder, T.nFinder_row, Nat.lt_of_le_of_lt (pl1 (pl1 pl0)) (by decide), ?_⟩
    have e : putF "row" (V.ref r) (putF "many" (.int 0) (putF "store" (.int (-1)) [])) = fF ⟨-1, 0, []⟩ r := by
      have e1 : putF "many" (.int 0) (putF "store" (V.int (-1)) []) = ([("store", .int (-1)), ("many", .int 0)] : List (Str × V)) := put_past (by decide +kernel) rfl
      rw [e1]
      exact put_past (by decide +kernel) (put_past (by decide +kernel) rfl)
    have nr' : H r = none := by rw [upd_ne (Ne.symm hxr)] at nr; exact nr
    refine q _ r nr' ⟨upd_same.trans (congrArg (fun z => some (HO.ins A.cFinder dx z)) e), ?_⟩ fun b o eb hb => ?_
    · rw [upd_ne (Ne.symm hxr)]; exact upd_same
    · have hbx : b ≠ x := by simpa using hb
      rw [upd_ne hbx, upd_ne (ne_of_none eb nr'), upd_ne hbx]
      exact eb
theorem ok_keep (T : Txt K mg A) : FnOk P w K mg base CX0 1 A.f_keep A.d_keep ["self", "store", "deeds"] (spKeep A) := by
  refine T.F_keep.ok sc_keep (fun vs H Q E h => ?_) (fun cdv Ar outer s H vs Q E hr h => ⟨_, pss_cons (ps_set (i := 3) sc_keep.nd rfl (Or.inl rfl) (pe_callB call_len_seq (by rfl) T.blen PySem.boot_len (pa_cons
      (pe_lc (own := [("deed", 4)]) (g := gName 4) rfl sc_keep.nd (pi_list (pv 2)) (blkOk_by (N := ["self", "store", "deeds", "many", "deed"]) (sc := defScope s_keep) (by decide +kernel)) (fun _ _ _ _ _ => pg_name (i := 4) sc_keep.nd rfl (Or.inl rfl)) (fun _ _ _ _ _ => pts_one (pt_cmpR op_ne (pv 4) (pe_ci rfl T.kREST) (nomark _))) (fun _ _ _ _ _ => pv 4)) pa_nil)))
    (pss_one (ps_if (PW.pt (pw_or (pt_cmpR op_gt (pv 1) (pe_fld (pv 0) rfl) (nomark _)) (pw_or1 (PW.pt (pw_and (pt_cmpR op_eq (pv 1) (pe_fld (pv 0) rfl) (nomark _)) (pw_and1 (pt_cmpR op_lt (pv 3) (pe_fld (pv 0) rfl) (nomark _))))))))
      (pss_cons (ps_fld (pv 0) (pv 1) rfl) (pss_cons (ps_fld (pv 0) (pv 3) rfl) (pss_one (ps_fld (pv 0) (pv 2) rfl)))) pss_nil)), ?_⟩)
  · obtain ⟨_, _, _, _, _, _, _, rfl, _⟩ := h
    rfl
  · obtain ⟨x, dx, r, dl, F, st, row, rfl, hf, hd, hl, q⟩ := h
    -- many = len([..])
    have hmany : ValS (tCB (fun xs H Q => ∃ p ys, xs = [.ref p] ∧ (SqL K H p ys ∨ SqT K H p ys) ∧ Q (.int ys.length) H) (tCons (tLc (iList K (tVar 2)) (gName 4) (tTest (tOp rNe (tVar 4) (tC (.int 0)))) (tVar 4) [4]) tNil)) (start ["self", "store", "deeds", "many", "deed"] [.ref x, .int st, .ref dl]) H (.int (wk row : Nat)) := fun Q q => by
      show tLc (iList K (tVar 2)) (gName 4) (tTest (tOp rNe (tVar 4) (tC (.int 0)))) (tVar 4) [4] _ H fun v H1 => ∃ p ys, [v] = [.ref p] ∧ (SqL K H1 p ys ∨ SqT K H1 p ys) ∧ Q (.int ys.length) H1
      refine lc_pure (fun v => !decide (v = .int 0)) id (val_var rfl) (SqL.of hd) (by rw [iv_len]; omega) ?_ (fun v _ _ H' _ => vs_of (val_var rfl)) fun D H' _ s d => ?_
      · intro v hv H' _
        obtain ⟨n, _, rfl⟩ := List.mem_map.mp hv
        exact as_of (ans_ne (val_var rfl) val_c rfl rfl)
      · refine ⟨D, _, rfl, .inl (SqL.of d), ?_⟩
        have e : (((iv row).filter fun v => !decide (v = V.int 0)).map id).length = wk row := by
          rw [List.map_id, iv, List.filter_map, List.length_map, wk]
          congr 1
          refine List.filter_congr fun n _ => ?_
          show (!decide (V.int (n : Int) = V.int 0)) = (n != 0)
          by_cases hn : n = 0
          · subst hn; rfl
          · have h1 : ¬ V.int (n : Int) = V.int 0 := fun z => hn (by injection z with z; omega)
            rw [decide_eq_false h1]
            simpa using hn
        rw [e]
        exact q H' s
    refine ss_set hmany fun H1 s1 => ?_
    have hf1 := hf.same s1
    have hd1 := s1 _ _ hd
    have t1 : Ans (tTest (tOp (rI0 fun i j => .bl (decide (j < i))) (tVar 1) (tFld K (tVar 0) "store"))) [some (.ref x), some (.int st), some (.ref dl), some (.int (wk row : Nat)), none] H1 (decide (F.store < (st : Int))) := an_gt (val_var rfl) (val_fld (val_var rfl) hf1.obj T.clFinder T.nFinder_store (fF_store _ _)) rfl
    have t2 : ∀ H', Same H1 H' → AnsS (tAnd (tTest (tOp rEq (tVar 1) (tFld K (tVar 0) "store"))) (tTest (tOp (rI0 fun i j => .bl (decide (i < j))) (tVar 3) (tFld K (tVar 0) "many")))) [some (.ref x), some (.int st), some (.ref dl), some (.int (wk row : Nat)), none] H' (decide ((st : Int) = F.store) && decide (((wk row : Nat) : Int) < (F.many : Nat))) := fun H' s' =>
      as_and (as_of (an_eqI (val_var rfl) (val_fld (val_var rfl) (hf1.same s').obj T.clFinder T.nFinder_store (fF_store _ _)) rfl)) fun _ H2 s2 =>
        as_of (an_lt (val_var rfl) (val_fld (val_var rfl) ((hf1.same s').same s2).obj T.clFinder T.nFinder_many (fF_many _ _)) rfl)
    refine ss_if (as_or (as_of t1) fun _ => t2) (fun e H2 s2 => ?_) (fun e H2 s2 => ?_)
    · have hf2 := hf1.same s2
      have hd2 := s2 _ _ hd1
      have hc : F.store < (st : Int) ∨ ((st : Int) = F.store ∧ wk row < F.many) := by
        rw [Bool.or_eq_true, Bool.and_eq_true, decide_eq_true_iff, decide_eq_true_iff, decide_eq_true_iff] at e
        rcases e with e | e
        · exact .inl e
        · exact .inr ⟨e.1, by omega⟩
      have hk : F.keep st row = ⟨st, wk row, row⟩ := if_pos hc
      rw [hk] at q
      refine st_fld (val_var rfl) (val_var rfl) hf2.obj T.clFinder T.nFinder_store (by show 3 < 1000; decide) ?_
      refine st_fld (val_var rfl) (val_var rfl) upd_same T.clFinder T.nFinder_many (Nat.lt_of_le_of_lt (pl1 (show (fF F r).length ≤ 3 from Nat.le_refl 3)) (by decide)) ?_
      rw [upd_upd]
      refine st_fld (val_var rfl) (val_var rfl) upd_same T.clFinder T.nFinder_row (Nat.lt_of_le_of_lt (pl1 (pl1 (show (fF F r).length ≤ 3 from Nat.le_refl 3))) (by decide)) ?_
      rw [upd_upd]
      have e1 : putF "store" (.int st) (fF F r) = fF ⟨st, F.many, F.row⟩ r := put_here
      have e2 : putF "many" (.int (wk row : Nat)) (fF ⟨st, F.many, F.row⟩ r) = fF ⟨st, wk row, F.row⟩ r := put_past (by decide +kernel) put_here
      have e3 : putF "row" (.ref dl) (fF ⟨st, wk row, F.row⟩ r) = fF ⟨st, wk row, row⟩ dl := put_past (by decide +kernel) (put_past (by decide +kernel) put_here)
      rw [e1, e2, e3]
      refine q _ dl ⟨upd_same, ?_⟩ ((Keeps.of_same (s1.trans s2)).trans (Keeps.upd (by simp)))
      rw [upd_ne (ne_of hd2 hf2.obj fun z => by cases z)]
      exact hd2
    · have hc : ¬ (F.store < (st : Int) ∨ ((st : Int) = F.store ∧ wk row < F.many)) := by
        rw [Bool.or_eq_false_iff, Bool.and_eq_false_iff, decide_eq_false_iff_not, decide_eq_false_iff_not, decide_eq_false_iff_not] at e
        rintro (z | z)
        · exact e.1 z
        · rcases e.2 with y | y
          · exact y z.1
          · exact y (by have := z.2; omega)
      have hk : F.keep st row = F := if_neg hc
      rw [hk] at q
      exact q H2 r (hf1.same s2) (Keeps.of_same (s1.trans s2))
theorem mine_all {Pa : PaA} {b : Addr} (h : b ∈ Pa.mine) : b ∈ Pa.all := by
  unfold PaA.mine at h
  unfold PaA.all
  simp at h ⊢
  rcases h with h | h | h <;> simp [h]
theorem ok_look (T : Txt K mg A) : ∀ n : Nat, FnOk P w K mg base CX0 (n + 6) A.f_look A.d_look ["self", "pans", "deeds", "left"] (spLook A n)
  | 0 => by
    show FnOk P w K mg base CX0 (5 + 1) A.f_look A.d_look ["self", "pans", "deeds", "left"] (spLook A 0)
    refine T.F_look.ok sc_look (fun vs H Q E h => ?_) (fun cdv Ar outer s H vs Q E hr h => ⟨_, pss_one (ps_if (pt_cmpR op_eq (pv 3) pe_int (nomark _)) (pss_one (ps_expr (pe_meth (pv 0) T.clFinder T.m_keep (ok_keep T) (hr.mono (by decide)) T.b_keep .nil pass0 (pa_cons (pe_fld (pv 1) rfl) (pa_cons (pv 2) pa_nil))))) pss_never), ?_⟩)
    · obtain ⟨_, _, _, _, _, _, _, _, rfl, _⟩ := h
      rfl
    · obtain ⟨x, dx, r, dl, F, Pa, s, pre, rfl, hf, hp, wf, hd, hl, hx, q⟩ := h
      refine st_yes (an_eqI (val_var rfl) val_c (decide_eq_true rfl)) ?_
      refine ⟨_, rfl, x, dx, _, rfl, hf.obj, fF_none _ _ (by decide +kernel), ?_⟩
      refine va_cons (val_store (σ := start ["self", "pans", "deeds", "left", "deed", "later"] [.ref x, .ref Pa.a, .ref dl, .int 0]) T hp (val_var (i := 1) rfl)) (va_cons (val_var (i := 2) rfl) va_nil) _ ?_
      exact ⟨x, dx, r, dl, F, s.store, pre, rfl, hf, hd, by omega, q⟩
  | n + 1 => by
    have ih := ok_look T n
    show FnOk P w K mg base CX0 ((n + 6) + 1) A.f_look A.d_look ["self", "pans", "deeds", "left"] (spLook A (n + 1))
    refine T.F_look.ok sc_look (fun vs H Q E h => ?_) (fun cdv Ar outer s H vs Q E hr h => ⟨_, pss_one (ps_if (pt_cmpR op_eq (pv 3) pe_int (nomark _)) pss_never
      (pss_one (ps_for PassesOwn.never rfl (pi_range1 rfl T.brange (pa_cons (pe_meth0 (pv 1) T.clPans T.m_deeds (ok_deeds T) (hr.mono (by omega)) T.b_deeds .nil pass0) pa_nil)) (pg_name (i := 4) sc_look.nd rfl (Or.inl rfl))
        (pss_cons (ps_set (i := 5) sc_look.nd rfl (Or.inl rfl) (pe_meth0 (pv 1) T.clPans T.m_copied (ok_copied T) (hr.mono (by omega)) T.b_copied .nil pass0))
        (pss_cons (ps_expr (pe_meth (pv 5) T.clPans T.m_day (ok_day T) (hr.mono (by omega)) T.b_day .nil pass0 (pa_cons (pv 4) pa_nil)))
        (pss_one (ps_expr (pe_meth (pv 0) T.clFinder T.m_look ih (hr.mono (by omega)) T.b_look .nil pass0 (pa_cons (pv 5) (pa_cons (pe_op op_cat (pv 2) (pe_lst (pa_cons (pv 4) pa_nil))) (pa_cons (pe_op op_sub (pv 3) pe_int) pa_nil))))))))))), ?_⟩)
    · obtain ⟨_, _, _, _, _, _, _, _, rfl, _⟩ := h
      rfl
    · obtain ⟨x, dx, r, dl, F, Pa, s, pre, rfl, hf, hp, wf, hd, hl, hx, q⟩ := h
      have h3 : s.works.pans.length ≤ 3 := wf.wk.np
      have hln := wf.ln
      refine st_no (an_eqI (b := false) (val_var rfl) val_c (decide_eq_false (by omega))) ?_
      refine st_forR (n := 3 + s.pans.length) (val_deeds hp (val_var rfl)) (by omega) (fun k σ H' => ∃ (v u : Option V) (r' : Addr), σ = [some (.ref x), some (.ref Pa.a), some (.ref dl), some (.int ((n + 1 : Nat) : Int)), v, u] ∧ FindAt A.cFinder H' x dx r' ((List.range k).foldl (fun F d => lookM n (Mu17.live s (Mu17.deedOf d)) (pre ++ [d]) F) F) ∧ Keeps [x] H H')
        ⟨none, none, r, rfl, hf, Keeps.refl⟩ ?_ ?_
      · rintro k σ H1 hlt ⟨v, u, r1, rfl, hf1, k1⟩
        have hp1 : PansAt A.cPans A.cPlan H1 Pa s := hp.keeps k1 fun b hb z => hx (by rw [List.mem_singleton] at z; rw [← z]; exact hb)
        have hd1 : H1 dl = some (.lst (iv pre)) := k1 _ _ hd (by rw [List.mem_singleton]; exact ne_of hd hf.obj fun z => by cases z)
        refine st_setM hp1 (val_var rfl) (by decide +kernel) va_nil ⟨Pa, s, rfl, hp1, h3, fun H2 Pb hb hpb na nw ns s2 => ?_⟩
        have hnew : ∀ b ∈ Pb.mine, H1 b = none := by
          intro b hb
          unfold PaA.mine at hb
          rw [List.mem_cons, List.mem_cons, List.mem_singleton] at hb
          rcases hb with rfl | rfl | rfl
          · exact na
          · exact nw
          · exact ns
        refine st_meth hb (val_var rfl) (by decide +kernel) (va_cons (val_var rfl) va_nil) ⟨Pb, s, k, rfl, hb, wf, hlt, fun H3 hb3 k3 => ?_⟩
        have s13 : Same H1 H3 := fun b o e => k3 b o (s2 b o e) fun z => by rw [hnew b z] at e; cases e
        have hf3 := hf1.same s13
        have hd3 := s13 _ _ hd1
        -- self.look(later, deeds + [deed], left - 1)
        refine ⟨_, rfl, x, dx, _, rfl, hf3.obj, fF_none _ _ (by decide +kernel), _, rfl, _, rfl, _, rfl, (by show 1 ≤ sizeLine; decide), fun t nt => ?_⟩
        refine ⟨dl, t, _, _, rfl, rfl, (by rw [upd_ne (ne_of_none hd3 nt)]; exact hd3), upd_same, ?_, fun p np => ?_⟩
        · rw [iv_len]
          exact Nat.le_trans (show pre.length + 1 ≤ 1000 by omega) (by decide)
        refine ⟨_, rfl, _, _, rfl, rfl, ?_⟩
        have s35 : Same H3 (upd (upd H3 t (.lst [.int (k : Int)])) p (.lst (iv pre ++ [.int (k : Int)]))) := ((Keeps.new (S := []) nt).trans (Keeps.new np)).same
        have hxall : x ∉ Pb.all := by
          intro z
          have hH1x := hf1.obj
          unfold PaA.all at z
          rw [List.mem_cons, List.mem_cons, List.mem_cons] at z
          rcases z with z | z | z | z
          · rw [z, na] at hH1x; cases hH1x
          · rw [z, nw] at hH1x; cases hH1x
          · rw [z, ns] at hH1x; cases hH1x
          · exact hx (by unfold PaA.all; rw [hpb] at z; simp [z])
        refine ⟨x, dx, r1, p, _, Pb, _, pre ++ [k], ?_, hf3.same s35, hb3.same s35, live_wf wf _, ?_, ?_, hxall, fun H6 r6 hf6 k6 => ?_⟩
        · show [V.ref x, V.ref Pb.a, V.ref p, V.int (((n + 1 : Nat) : Int) - 1)] = _
          rw [show (((n + 1 : Nat) : Int) - 1) = (n : Int) by omega]
        · rw [upd_same]
          unfold iv
          rw [List.map_append]
          rfl
        · rw [List.length_append]
          show pre.length + 1 + n ≤ 1000
          omega
        · refine ⟨_, _, r6, rfl, ?_, k1.trans ((Keeps.of_same (s13.trans s35)).trans k6)⟩
          rw [List.range_succ, List.foldl_append]
          exact hf6
      · rintro σ H1 ⟨v, u, r1, rfl, hf1, k1⟩
        exact q H1 r1 hf1 k1
theorem ok_best (T : Txt K mg A) : FnOk P w K mg base CX0 12 A.f_best A.d_best ["pans", "n"] (spBest A) := by
  refine T.F_best.ok sc_best (fun vs H Q E h => ?_) (fun cdv Ar outer s H vs Q E hr h => ?_)
  · obtain ⟨_, _, _, rfl, _⟩ := h
    rfl
  · obtain ⟨Pa, s, n, rfl, hp, wf, hn, q⟩ := h
    refine ⟨_, pss_cons (ps_set (i := 2) sc_best.nd rfl (Or.inl rfl) (pe_make0 T.mkFinder (ok_fInit T) (hr.mono (by decide)) rfl T.gFinder T.b_fInit .nil pass0))
      (pss_cons (ps_expr (pe_meth (pv 2) T.clFinder T.m_look (ok_look T n) (hr.mono (by omega)) T.b_look .nil pass0 (pa_cons (pv 0) (pa_cons (pe_lst pa_nil) (pa_cons (pv 1) pa_nil)))))
      (pss_one (ps_ret (pe_op op_cat (pe_lst (pa_cons (pe_fld (pv 2) rfl) pa_nil)) (pe_fld (pv 2) rfl))))), ?_⟩
    intro x dx nx ndx nex
    have s0 : Same H (upd (upd H dx (.own x)) x (.ins A.cFinder dx [])) := ((Keeps.new (S := []) ndx).trans (Keeps.new (by rw [upd_ne (Ne.symm nex)]; exact nx))).same
    refine ⟨x, dx, rfl, upd_same, fun H1 r nr hf k1 => ⟨rfl, ?_⟩⟩
    have s1 : Same H H1 := fun b o e => k1 b o (s0 b o e) (by simpa using ne_of_none e nx)
    have hx : x ∉ Pa.all := fun z => hp.ne nx x z rfl
    refine ⟨_, rfl, x, dx, _, rfl, hf.obj, fF_none _ _ (by decide +kernel), _, rfl, (by show 0 ≤ sizeLine; decide), fun t nt => ?_⟩
    refine ⟨_, rfl, x, dx, r, t, _, Pa, s, [], rfl, hf.same (Keeps.new (S := []) nt).same, (hp.same s1).same (Keeps.new (S := []) nt).same, wf, upd_same, (by show 0 + n ≤ 1000; omega), hx, fun H3 r3 hf3 k3 => ?_⟩
    rw [best_law wf] at hf3
    have s3 : Same H H3 := fun b o e => k3 b o ((Keeps.new (S := []) nt).same _ _ (s1 b o e)) (by simpa using ne_of_none e nx)
    -- [finder.store] + finder.row
    refine ⟨_, rfl, x, A.cFinder, dx, _, _, rfl, hf3.obj, T.clFinder, T.nFinder_store, fF_store _ _, (by show 1 ≤ sizeLine; decide), fun p1 n1 => ?_⟩
    have hf4 := hf3.same (Keeps.new (S := []) (o := .lst [.int (fndOf s (Mu17.best s n)).store]) n1).same
    refine ⟨_, rfl, x, A.cFinder, dx, _, _, rfl, hf4.obj, T.clFinder, T.nFinder_row, fF_row _ _, p1, r3, _, _, rfl, rfl, upd_same, hf4.row, ?_, fun p2 n2 => ?_⟩
    · rw [iv_len]
      show 1 + ((Mu17.best s n).map Mu17.codeOf).length ≤ sizeLine
      rw [List.length_map, best_len]
      exact Nat.le_trans (by omega : 1 + n ≤ 6) (by decide)
    · have n2' : H p2 = none := by
        have hne : p2 ≠ p1 := fun z => by rw [z, upd_same] at n2; cases n2
        rw [upd_ne hne] at n2
        exact s3.free n2
      refine q _ p2 (s3.trans ((Keeps.new (S := []) n1).trans (Keeps.new n2)).same) n2' ?_
      rw [upd_same]
      refine congrArg (fun z => some (HO.lst z)) ?_
      unfold Mu17.nums iv fndOf
      simp only [List.map_cons, List.map_map]
      rfl
theorem ok_bestTold (T : Txt K mg A) : FnOk P w K mg base CX0 13 A.f_bestTold A.d_bestTold ["pans", "n"] (spBestTold A) := by
  refine T.F_bestTold.ok sc_bestTold (fun vs H Q E h => ?_) (fun cdv Ar outer s H vs Q E hr h => ⟨_, pss_cons (ps_if (pt_not (pt_chain op_le op_le pe_int (pv 1) (pe_ci rfl T.kMOST_BEST))) (pss_one (ps_ret (pe_lst (pa_cons (pe_ci rfl T.kNOT_SO) pa_nil)))) pss_nil)
    (pss_one (ps_ret (pe_call (ok_best T) hr rfl T.g_best T.F_best.kp T.b_best .nil pass0 (pa_cons (pv 0) (pa_cons (pv 1) pa_nil))))), ?_⟩)
  · obtain ⟨_, _, _, rfl, _⟩ := h
    rfl
  · obtain ⟨Pa, s, n, rfl, hp, wf, q⟩ := h
    have e0 : Mu17.step (some s) (.best n) = (some s, if n = 0 ∨ 5 < n then [-1] else Mu17.nums ((Mu17.lives s (Mu17.best s n)).store :: (Mu17.best s n).map Mu17.codeOf)) := rfl
    refine ss_if (as_not (as_test (vs_of (val_chain val_c (val_var rfl) val_c)))) (fun e H1 s1 => ?_) (fun e H1 s1 => ?_)
    · have hc : n = 0 ∨ 5 < n := by
        simp at e
        omega
      rw [if_pos hc] at e0
      refine st_retL (va_cons val_c va_nil) (by show 1 ≤ 1000; decide) fun p hn => ?_
      exact q s [-1] e0 wf _ p ((hp.same s1).new hn) ((Keeps.of_same s1).trans (Keeps.new hn)) (s1.free hn) upd_same
    · have hc : ¬ (n = 0 ∨ 5 < n) := by
        simp at e
        omega
      rw [if_neg hc] at e0
      refine st_next ?_
      refine st_retC (D := { nx := fun _ H' => Q .non H', rt := Q }) (va_cons (val_var rfl) (va_cons (val_var rfl) va_nil)) ⟨Pa, s, n, rfl, hp.same s1, wf, by omega, fun H2 p s2 hn h2 => ?_⟩
      exact q s _ e0 wf H2 p ((hp.same s1).same s2) (Keeps.of_same (s1.trans s2)) (s1.free hn) h2
end
end Sal
namespace Sal
open PySem PySem.Spec PyProof.Rows L2
/-! ### data and their equality -/
def dN (l : List Nat) : List PyData := l.map fun (n : Nat) => PyData.int (n : Int)
def dI (l : List Nat) : PyData := .list (dN l)
section
variable {K : PySem.W.Frag} {H : Hp}
theorem dp_all : ∀ l : List Nat, DpAll K H (iv l) (dN l)
  | [] => .nil
  | n :: l => .cons (.int n) (dp_all l)
theorem dp_ints {a : Addr} {l : List Nat} (h : SqL K H a (iv l)) : Dp K H (.ref a) (dI l) := .lst h (dp_all l)
theorem canLayAll_of : ∀ {ds : List PyData}, (∀ d ∈ ds, PyData.canLay0 d = true) → PyData.canLayAll0 ds = true
  | [], _ => by simp [PyData.canLayAll0]
  | d :: ds, h => by
    simp only [PyData.canLayAll0, Bool.and_eq_true]
    exact ⟨h d List.mem_cons_self, canLayAll_of fun e he => h e (List.mem_cons_of_mem _ he)⟩
theorem depthAll_of {k : Nat} : ∀ {ds : List PyData}, (∀ d ∈ ds, PyData.depth d ≤ k) → PyData.depthAll ds ≤ k
  | [], _ => by simp [PyData.depthAll]
  | d :: ds, h => by
    simp only [PyData.depthAll]
    have h1 := h d List.mem_cons_self
    have h2 := depthAll_of fun e he => h e (List.mem_cons_of_mem _ he)
    omega
theorem shaped_list {ds : List PyData} (h : ∀ d ∈ ds, PyData.canLay0 d = true ∧ PyData.depth d ≤ 10) : SeqAt.shaped (.list ds) = true := by
  unfold SeqAt.shaped
  rw [Bool.and_eq_true]
  constructor
  · simp only [PyData.canLay0]
    exact canLayAll_of fun d hd => (h d hd).1
  · refine decide_eq_true ?_
    simp only [PyData.depth]
    have := depthAll_of fun d hd => (h d hd).2
    omega
theorem int_flat {d : PyData} {l : List Nat} (h : d ∈ dN l) : PyData.canLay0 d = true ∧ PyData.depth d ≤ 10 := by
  obtain ⟨n, _, rfl⟩ := List.mem_map.mp h
  simp [PyData.canLay0, PyData.depth]
theorem shaped_ints (l : List Nat) : SeqAt.shaped (dI l) = true := shaped_list fun d hd => int_flat hd
theorem flat_ints (l : List Nat) : PyData.canLay0 (dI l) = true ∧ PyData.depth (dI l) ≤ 10 := by
  unfold dI
  simp only [PyData.canLay0, PyData.depth]
  refine ⟨canLayAll_of fun d hd => (int_flat hd).1, ?_⟩
  have : PyData.depthAll (dN l) ≤ 0 := depthAll_of fun d hd => by
    obtain ⟨n, _, rfl⟩ := List.mem_map.mp hd
    simp [PyData.depth]
  omega
theorem eqvAll_ints : ∀ l m : List Nat, PyData.eqvAll (dN l) (dN m) = decide (l = m)
  | [], [] => by simp [dN, PyData.eqvAll]
  | [], m :: ms => by simp [dN, PyData.eqvAll]
  | l :: ls, [] => by simp [dN, PyData.eqvAll]
  | l :: ls, m :: ms => by
    have ih := eqvAll_ints ls ms
    unfold dN at ih ⊢
    simp only [List.map_cons, PyData.eqvAll, PyData.eqv, ih]
    by_cases h1 : l = m
    · subst h1
      by_cases h2 : ls = ms
      · subst h2; simp
      · simp [h2]
    · have : ¬ (l : Int) = (m : Int) := fun z => h1 (by omega)
      simp [h1, this]
theorem eqv_ints (l m : List Nat) : PyData.eqv (dI l) (dI m) = decide (l = m) := by
  unfold dI
  simp only [PyData.eqv]
  exact eqvAll_ints l m
theorem eqv_nil (ds : List PyData) : PyData.eqv (.list ds) (.list []) = ds.isEmpty := by
  simp only [PyData.eqv]
  cases ds <;> simp [PyData.eqvAll]
variable {σ : L2.St} {ta tb : TE} {a b : Addr} {l m : List Nat}
theorem val_eqL (ha : Val ta σ H (.ref a)) (hb : Val tb σ H (.ref b)) (h1 : SqL K H a (iv l)) (h2 : SqL K H b (iv m)) : Val (tOp (rEqD K) ta tb) σ H (.bl (decide (l = m))) := val_op ha hb fun Q q =>
  ⟨dI l, dI m, dp_ints h1, dp_ints h2, shaped_ints l, shaped_ints m, by rw [eqv_ints]; exact q⟩
theorem ans_eqL (ha : Val ta σ H (.ref a)) (hb : Val tb σ H (.ref b)) (h1 : SqL K H a (iv l)) (h2 : SqL K H b (iv m)) : Ans (tTest (tOp (rEqD K) ta tb)) σ H (decide (l = m)) := fun Q q => val_eqL ha hb h1 h2 _ ⟨_, rfl, q⟩
/-- == [] of a list of data -/
theorem as_eqNil {xs : List V} {ds : List PyData} (ha : Val ta σ H (.ref a)) (h1 : SqL K H a xs) (h2 : ∀ H', Same H H' → DpAll K H' xs ds) (h3 : ∀ d ∈ ds, PyData.canLay0 d = true ∧ PyData.depth d ≤ 10) : AnsS (tTest (tOp (rEqD K) ta (tLst tNil))) σ H ds.isEmpty := fun Q q => by
  refine ha _ ⟨by show 0 ≤ sizeLine; decide, fun p hn => ?_⟩
  have s : Same H (upd H p (.lst [])) := (Keeps.new (S := []) hn).same
  refine ⟨.list ds, .list [], .lst (s.seq h1) (h2 _ s), .lst (SqL.of upd_same) .nil, shaped_list h3, (shaped_list fun d hd => by cases hd), _, rfl, ?_⟩
  rw [eqv_nil]
  exact q _ s
theorem as_neNil {xs : List V} {ds : List PyData} (ha : Val ta σ H (.ref a)) (h1 : SqL K H a xs) (h2 : ∀ H', Same H H' → DpAll K H' xs ds) (h3 : ∀ d ∈ ds, PyData.canLay0 d = true ∧ PyData.depth d ≤ 10) : AnsS (tTest (tOp (rNeD K) ta (tLst tNil))) σ H (!ds.isEmpty) := fun Q q => by
  refine ha _ ⟨by show 0 ≤ sizeLine; decide, fun p hn => ?_⟩
  have s : Same H (upd H p (.lst [])) := (Keeps.new (S := []) hn).same
  refine ⟨.list ds, .list [], .lst (s.seq h1) (h2 _ s), .lst (SqL.of upd_same) .nil, shaped_list h3, (shaped_list fun d hd => by cases hd), _, rfl, ?_⟩
  rw [eqv_nil]
  exact q _ s
end
/-! ### rows: a list of lists of numbers -/
def Rows (H : Hp) : List Addr → List (List Nat) → Prop
  | [], [] => True
  | b :: r, l :: m => H b = some (.lst (iv l)) ∧ Rows H r m
  | [], _ :: _ => False
  | _ :: _, [] => False
section
variable {H H' : Hp} {K : PySem.W.Frag}
theorem Rows.keep : ∀ {r : List Addr} {m : List (List Nat)}, Rows H r m → (∀ b ∈ r, ∀ o, H b = some o → H' b = some o) → Rows H' r m
  | [], [], _, _ => trivial
  | b :: r, l :: m, h, k => ⟨k b List.mem_cons_self _ h.1, Rows.keep h.2 fun c hc => k c (List.mem_cons_of_mem _ hc)⟩
  | [], _ :: _, h, _ => h
  | _ :: _, [], h, _ => h
theorem Rows.same {r : List Addr} {m : List (List Nat)} (h : Rows H r m) (k : Same H H') : Rows H' r m := h.keep fun b _ o e => k b o e
theorem Rows.len : ∀ {r : List Addr} {m : List (List Nat)}, Rows H r m → r.length = m.length
  | [], [], _ => rfl
  | b :: r, l :: m, h => congrArg (· + 1) (Rows.len h.2)
theorem Rows.app : ∀ {r r' : List Addr} {m m' : List (List Nat)}, Rows H r m → Rows H r' m' → Rows H (r ++ r') (m ++ m')
  | [], _, [], _, _, h' => h'
  | b :: r, _, l :: m, _, h, h' => ⟨h.1, Rows.app h.2 h'⟩
theorem Rows.split : ∀ {r : List Addr} {m : List (List Nat)} {c : List Nat}, Rows H r (m ++ [c]) → ∃ r0 b, r = r0 ++ [b] ∧ Rows H r0 m ∧ H b = some (.lst (iv c))
  | [], [], c, h => h.elim
  | [], _ :: _, c, h => h.elim
  | b :: r, [], c, h => by
    have h2 : Rows H r [] := h.2
    cases r with
    | nil => exact ⟨[], b, rfl, trivial, h.1⟩
    | cons _ _ => exact h2.elim
  | b :: r, l :: m, c, h => by
    obtain ⟨r0, b', e, h1, h2⟩ := Rows.split (r := r) (m := m) h.2
    exact ⟨b :: r0, b', by rw [e]; rfl, ⟨h.1, h1⟩, h2⟩
theorem Rows.get : ∀ {r : List Addr} {m : List (List Nat)} {i : Nat} {l : List Nat}, Rows H r m → m[i]? = some l → ∃ b, r[i]? = some b ∧ H b = some (.lst (iv l))
  | [], [], i, l, _, e => by simp at e
  | b :: r, c :: m, 0, l, h, e => by
    cases Option.some.inj e
    exact ⟨b, rfl, h.1⟩
  | b :: r, c :: m, i + 1, l, h, e => Rows.get (r := r) (m := m) (i := i) h.2 e
theorem Rows.dp : ∀ {r : List Addr} {m : List (List Nat)}, Rows H r m → DpAll K H (r.map V.ref) (m.map dI)
  | [], [], _ => .nil
  | b :: r, l :: m, h => .cons (dp_ints (SqL.of h.1)) (Rows.dp h.2)
/-- not empty, by the heap -/
def notNil (H : Hp) : V → Bool
  | .ref b => match H b with
    | some (.lst xs) => !xs.isEmpty
    | _ => false
  | _ => false
theorem Rows.filter : ∀ {r : List Addr} {m : List (List Nat)}, Rows H r m → Rows H (r.filter fun b => notNil H (.ref b)) (m.filter fun w => w != [])
  | [], [], _ => trivial
  | b :: r, l :: m, h => by
    have ih := Rows.filter h.2
    have e : notNil H (.ref b) = (l != []) := by
      unfold notNil
      simp only [h.1]
      unfold iv
      cases l <;> rfl
    rw [List.filter_cons, List.filter_cons, e]
    cases l with
    | nil => exact ih
    | cons x l => exact ⟨h.1, ih⟩
end
end Sal
namespace Sal
open PySem PySem.Spec PyProof.Rows L2
/-! ### a list split at a byte, turn by turn -/
structure SplAt (H0 H : Hp) (fa : Addr) (refs : List Addr) (ls : List (List Nat)) : Prop where
  sm : Same H0 H
  fn : H0 fa = none
  fl : H fa = some (.lst (refs.map V.ref))
  rw : Rows H refs ls
  rn : ∀ b ∈ refs, H0 b = none
  nd : refs.Nodup
  fr : fa ∉ refs
theorem SplAt.begin {H : Hp} {p fa : Addr} (np : H p = none) (nf : upd H p (.lst []) fa = none) : SplAt H (upd (upd H p (.lst [])) fa (.lst [.ref p])) fa [p] [[]] := by
  have hne : fa ≠ p := fun z => by rw [z, upd_same] at nf; cases nf
  have nf' : H fa = none := by rw [upd_ne hne] at nf; exact nf
  refine ⟨((Keeps.new (S := []) np).trans (Keeps.new nf)).same, nf', upd_same, ⟨?_, trivial⟩, fun b hb => ?_, List.nodup_cons.mpr ⟨by simp, List.nodup_nil⟩, by simpa using hne⟩
  · rw [upd_ne (Ne.symm hne)]; exact upd_same
  · rw [List.mem_singleton.mp hb]; exact np
theorem SplAt.newRow {H0 H : Hp} {fa p : Addr} {refs : List Addr} {ls : List (List Nat)} (S : SplAt H0 H fa refs ls) (np : H p = none) : SplAt H0 (upd (upd H p (.lst [])) fa (.lst (refs.map V.ref ++ [.ref p]))) fa (refs ++ [p]) (ls ++ [[]]) := by
  have hpf : p ≠ fa := fun z => by rw [z, S.fl] at np; cases np
  have k1 : ∀ b o, b ≠ fa → H b = some o → (upd (upd H p (.lst [])) fa (.lst (refs.map V.ref ++ [.ref p]))) b = some o := fun b o hb e => by
    rw [upd_ne hb, upd_ne (ne_of_none e np)]; exact e
  refine ⟨fun b o e => k1 b o (ne_of_none e S.fn) (S.sm b o e), S.fn, ?_, (S.rw.keep fun b hb o e => k1 b o (fun z => S.fr (by rw [← z]; exact hb)) e).app ⟨?_, trivial⟩, ?_, ?_, ?_⟩
  · rw [upd_same, List.map_append]; rfl
  · rw [upd_ne hpf]; exact upd_same
  · intro b hb
    rcases List.mem_append.mp hb with h | h
    · exact S.rn b h
    · rw [List.mem_singleton.mp h]; exact S.sm.free np
  · rw [List.nodup_append]
    refine ⟨S.nd, List.nodup_cons.mpr ⟨by simp, List.nodup_nil⟩, fun a ha b hb => ?_⟩
    rw [List.mem_singleton.mp hb]
    intro z
    obtain ⟨i, hi, e⟩ := List.getElem_of_mem ha
    have hl := S.rw.len
    obtain ⟨b', h1, h2⟩ := S.rw.get (i := i) (List.getElem?_eq_getElem (by omega))
    rw [List.getElem?_eq_getElem hi, e] at h1
    cases Option.some.inj h1
    rw [z, np] at h2; cases h2
  · intro z
    rcases List.mem_append.mp z with h | h
    · exact S.fr h
    · exact hpf (List.mem_singleton.mp h).symm
theorem SplAt.addTo {H0 H : Hp} {fa b : Addr} {r0 : List Addr} {done : List (List Nat)} {cur : List Nat} {x : Nat} (S : SplAt H0 H fa (r0 ++ [b]) (done ++ [cur])) (hb : H b = some (.lst (iv cur))) (h0 : Rows H r0 done) : SplAt H0 (upd H b (.lst (iv cur ++ [.int (x : Int)]))) fa (r0 ++ [b]) (done ++ [cur ++ [x]]) := by
  have hb0 : H0 b = none := S.rn b (by simp)
  have hbf : fa ≠ b := fun z => S.fr (by rw [z]; simp)
  have hnd := S.nd
  rw [List.nodup_append] at hnd
  refine ⟨fun c o e => ?_, S.fn, ?_, (h0.keep fun c hc o e => ?_).app ⟨?_, trivial⟩, S.rn, S.nd, S.fr⟩
  · rw [upd_ne (ne_of_none e hb0)]; exact S.sm c o e
  · rw [upd_ne hbf]; exact S.fl
  · rw [upd_ne (hnd.2.2 c hc b (by simp))]; exact e
  · rw [upd_same]
    unfold iv
    rw [List.map_append]
    rfl
theorem spl_len (c : Nat) : ∀ l : List Nat, (spl c l).length ≤ l.length + 1 ∧ ∀ w ∈ spl c l, w.length ≤ l.length
  | [] => by simp [spl]
  | x :: r => by
    have ih := spl_len c r
    unfold spl
    by_cases h : x = c
    · rw [if_pos h]
      refine ⟨by simpa using ih.1, fun w hw => ?_⟩
      rcases List.mem_cons.mp hw with e | e
      · rw [e]; simp
      · have := ih.2 w e; simp; omega
    · rw [if_neg h]
      cases e : spl c r with
      | nil => exact absurd e (spl_ne c r)
      | cons l m =>
        rw [e] at ih
        refine ⟨by have := ih.1; simp at this ⊢; omega, fun w hw => ?_⟩
        rcases List.mem_cons.mp hw with q | q
        · rw [q]; have := ih.2 l List.mem_cons_self; simp; omega
        · have := ih.2 w (List.mem_cons_of_mem _ q); simp; omega
def tSplit (K : PySem.W.Frag) (c : Nat) : TS := tIfS (tTest (tOp rEq (tVar 2) (tC (.int (c : Int))))) (tDrop (tBM K "list" rAppend (tVar 1) (tCons (tLst tNil) tNil)))
  (tDrop (tBM K "list" rAppend (tOp (rIxL K) (tVar 1) (tUn (rU fun i => .int (-i)) (tC (.int 1)))) (tCons (tVar 2) tNil)))
theorem split_turn {K : PySem.W.Frag} {H0 H : Hp} {fa : Addr} {refs : List Addr} {c x : Nat} {pre : List Nat} {σ : L2.St} {D : Ends} (h1 : σ[1]? = some (some (.ref fa))) (h2 : σ[2]? = some (some (.int (x : Int)))) (S : SplAt H0 H fa refs (spl c pre)) (hn : pre.length ≤ 3000)
    (q : ∀ H' refs', SplAt H0 H' fa refs' (spl c (pre ++ [x])) → D.nx σ H') : tSplit K c D σ H := by
  obtain ⟨done, cur, e1, e2⟩ := spl_snoc c x pre
  have hl := spl_len c pre
  have hrl := S.rw.len
  have hsz : ∀ n : Nat, n ≤ 4000 → n < sizeLine := fun n hn => Nat.lt_of_le_of_lt hn (by decide)
  by_cases hx : x = c
  · refine st_yes (an_eqI (val_var h2) val_c (decide_eq_true (by omega))) ?_
    refine ⟨_, h1, .inl ⟨rfl, _, SqL.of S.fl⟩, by show 0 ≤ sizeLine; decide, fun p np => ?_⟩
    have hpf : fa ≠ p := fun z => by rw [← z, S.fl] at np; cases np
    refine ⟨fa, _, _, rfl, rfl, (by rw [upd_ne hpf]; exact S.fl), hsz _ (by rw [List.length_map]; omega), ?_⟩
    have S' := S.newRow np
    rw [if_pos hx, ← e1] at e2
    rw [← e2] at S'
    exact q _ _ S'
  · refine st_no (an_eqI (b := false) (val_var h2) val_c (decide_eq_false (by omega))) ?_
    rw [e1] at S
    obtain ⟨r0, b, er, h0, hb⟩ := S.rw.split
    subst er
    have hc : cur.length ≤ pre.length := hl.2 cur (by rw [e1]; simp)
    refine ⟨_, h1, 1, rfl, fa, _, _, .ref b, rfl, rfl, SqL.of S.fl, ?_, .inl ⟨rfl, _, SqL.of hb⟩, _, h2, b, _, _, rfl, rfl, hb, hsz _ (by rw [iv_len]; omega), ?_⟩
    · rw [List.map_append]
      exact atI_last _ _
    · rw [if_neg hx] at e2
      have S' := S.addTo (x := x) hb h0
      rw [← e2] at S'
      exact q _ _ S'
/-! ### lines_of, words_of -/
def spLines (K : PySem.W.Frag) : Sp := fun vs H Q _ => ∃ (a : Addr) (t : List Nat), vs = [.ref a] ∧ SqL K H a (iv t) ∧ t.length ≤ 2000 ∧
  ∀ H' fa refs, SplAt H H' fa refs (Mu17.lines t) → Q (.ref fa) H'
def wordsOf (l : List Nat) : List (List Nat) := if l.head? = some 35 then [] else words l
def spWords (K : PySem.W.Frag) : Sp := fun vs H Q _ => ∃ (a : Addr) (l : List Nat), vs = [.ref a] ∧ SqL K H a (iv l) ∧ l.length ≤ 2000 ∧
  ∀ H' wa refs, Same H H' → H' wa = some (.lst (refs.map V.ref)) → Rows H' refs (wordsOf l) → Q (.ref wa) H'
theorem iv_at {l : List Nat} {i : Nat} {x : V} (h : (iv l)[i]? = some x) : ∃ n : Nat, l[i]? = some n ∧ x = .int (n : Int) := by
  unfold iv at h
  rw [List.getElem?_map] at h
  cases e : l[i]? with
  | none => rw [e] at h; cases h
  | some n => rw [e] at h; exact ⟨n, rfl, (Option.some.inj h).symm⟩
theorem take1 (l : List Nat) : l.take 1 = [35] ↔ l.head? = some 35 := by
  cases l with
  | nil => simp
  | cons x r => simp
theorem cut1 (l : List Nat) : cutV (iv l) none (some 1) = iv (l.take 1) := by
  unfold cutV iv
  cases l with
  | nil => rfl
  | cons x r =>
    rw [HT.sIx_none, List.drop_zero]
    have : HT.sIx (List.map (fun (n : Nat) => V.int (n : Int)) (x :: r)).length (List.map (fun (n : Nat) => V.int (n : Int)) (x :: r)).length (some 1) = min 1 (List.map (fun (n : Nat) => V.int (n : Int)) (x :: r)).length := HT.sIx_nat _ _ 1
    rw [this, List.length_map, List.map_take]
    congr 1
section
variable {P : Program} {w : World} {K : PySem.W.Frag} {mg : Str → Option Value} {base : Heap} {A : Ad}
theorem ok_lines (T : Txt K mg A) : FnOk P w K mg base CX0 1 A.f_lines A.d_lines ["text"] (spLines K) := by
  refine T.F_lines.ok sc_lines (fun vs H Q E h => ?_) (fun cdv Ar outer s H vs Q E hr h => ⟨_, pss_cons (ps_set (i := 1) sc_lines.nd rfl (Or.inl rfl) (pe_lst (pa_cons (pe_lst pa_nil) pa_nil)))
    (pss_cons (ps_for PassesOwn.never rfl (pi_list (pv 0)) (pg_name (i := 2) sc_lines.nd rfl (Or.inl rfl))
      (pss_one (ps_if (pt_cmpR op_eq (pv 2) (pe_ci rfl T.kLINE_END) (nomark _)) (pss_one (ps_expr (pe_bm PySem.F.plainAttrs_list PySem.F.slot_list_append PySem.F.type_list_append mt_append (pv 1) (pa_cons (pe_lst pa_nil) pa_nil))))
        (pss_one (ps_expr (pe_bm PySem.F.plainAttrs_list PySem.F.slot_list_append PySem.F.type_list_append mt_append (pe_ix ix_list (pv 1) (pe_un un_neg pe_int) (fun _ _ => rfl)) (pa_cons (pv 2) pa_nil)))))))
    (pss_one (ps_ret (pv 1)))), ?_⟩)
  · obtain ⟨_, _, rfl, _⟩ := h
    rfl
  · obtain ⟨a, t, rfl, hS, hl, q⟩ := h
    refine ⟨by show 0 ≤ sizeLine; decide, fun p np => ⟨by show 1 ≤ sizeLine; decide, fun fa nf => ?_⟩⟩
    have S0 := SplAt.begin np nf
    refine ⟨_, rfl, a, rfl, ⟨_, S0.sm.seq hS⟩, for_list (K := K) (a := a) (xs := iv t) (fun i σ H' => ∃ (v : Option V) (refs : List Addr), σ = [some (.ref a), some (.ref fa), v] ∧ SplAt H H' fa refs (spl 10 (t.take i)))
      ⟨none, [p], rfl, S0⟩ (fun i σ H' _ ⟨_, _, _, S⟩ => S.sm.seq hS) ?_ ?_⟩
    · rintro i x σ H1 hx ⟨v, refs, rfl, S⟩
      obtain ⟨n, hn, rfl⟩ := iv_at hx
      refine split_turn (K := K) (c := 10) (x := n) rfl rfl S (Nat.le_trans (List.length_take_le _ _) ?_) fun H' refs' S' => ?_
      · have := (List.getElem?_eq_some_iff.mp hn).1
        omega
      · rw [← take_more hn] at S'
        exact ⟨_, refs', rfl, S'⟩
    · rintro σ H1 ⟨v, refs, rfl, S⟩
      rw [iv_len, List.take_length, spl_lines] at S
      exact ⟨_, rfl, q H1 fa refs S⟩
theorem ok_words (T : Txt K mg A) : FnOk P w K mg base CX0 1 A.f_words A.d_words ["line"] (spWords K) := by
  refine T.F_words.ok sc_words (fun vs H Q E h => ?_) (fun cdv Ar outer s H vs Q E hr h => ⟨_, pss_cons (ps_if (pt_cmpR (op_eqD hr.units) (pe_slice sl_list (pv 0) po_none (po_some pe_int)) (pe_lst (pa_cons (pe_ci rfl T.kNOTE) pa_nil)) (nomark _)) (pss_one (ps_ret (pe_lst pa_nil))) pss_nil)
    (pss_cons (ps_set (i := 1) sc_words.nd rfl (Or.inl rfl) (pe_lst (pa_cons (pe_lst pa_nil) pa_nil)))
    (pss_cons (ps_for PassesOwn.never rfl (pi_list (pv 0)) (pg_name (i := 2) sc_words.nd rfl (Or.inl rfl))
      (pss_one (ps_if (pt_cmpR op_eq (pv 2) (pe_ci rfl T.kBLANK) (nomark _)) (pss_one (ps_expr (pe_bm PySem.F.plainAttrs_list PySem.F.slot_list_append PySem.F.type_list_append mt_append (pv 1) (pa_cons (pe_lst pa_nil) pa_nil))))
        (pss_one (ps_expr (pe_bm PySem.F.plainAttrs_list PySem.F.slot_list_append PySem.F.type_list_append mt_append (pe_ix ix_list (pv 1) (pe_un un_neg pe_int) (fun _ _ => rfl)) (pa_cons (pv 2) pa_nil)))))))
    (pss_one (ps_ret (pe_lc (own := [("word", 3)]) (g := gName 3) (tt := tTest (tOp (rNeD K) (tVar 3) (tLst tNil))) (te := tVar 3) rfl sc_words.nd (pi_list (pv 1)) (blkOk_by (N := ["line", "found", "byte", "word"]) (sc := defScope s_words) (by decide +kernel)) (fun _ _ _ _ _ => pg_name (i := 3) sc_words.nd rfl (Or.inl rfl)) (fun _ _ _ _ _ => pts_one (pt_cmpR (op_neD hr.units) (pv 3) (pe_lst pa_nil) (nomark _))) (fun _ _ _ _ _ => pv 3)))))), ?_⟩)
  · obtain ⟨_, _, rfl, _⟩ := h
    rfl
  · obtain ⟨a, l, rfl, hS, hl, q⟩ := h
    -- line[:1] == [NOTE]
    have htest : AnsS (tTest (tOp (rEqD K) (tSl (rSlL K) (tVar 0) tNoPart (tPart (tC (.int 1)))) (tLst (tCons (tC (.int 35)) tNil)))) (start ["line", "found", "byte", "word"] [.ref a]) H (decide (l.take 1 = [35])) := fun Q q => by
      refine ⟨_, rfl, _, rfl, a, _, rfl, hS, fun p1 n1 => ⟨by show 1 ≤ sizeLine; decide, fun p2 n2 => ?_⟩⟩
      have hne : p1 ≠ p2 := fun z => by rw [← z, upd_same] at n2; cases n2
      refine ⟨dI (l.take 1), dI [35], dp_ints ?_, dp_ints (SqL.of upd_same), shaped_ints _, shaped_ints _, _, rfl, ?_⟩
      · rw [← cut1]
        exact SqL.of (by rw [upd_ne hne]; exact upd_same)
      · rw [eqv_ints]
        exact q _ ((Keeps.new (S := []) n1).trans (Keeps.new n2)).same
    refine ss_if htest (fun e H1 s1 => ?_) (fun e H1 s1 => ?_)
    · have hh : l.head? = some 35 := (take1 l).mp (of_decide_eq_true e)
      have hw : wordsOf l = [] := if_pos hh
      refine ⟨by show 0 ≤ sizeLine; decide, fun p np => ?_⟩
      exact q _ p [] (s1.trans (Keeps.new (S := []) np).same) upd_same (by rw [hw]; trivial)
    · have hh : ¬ l.head? = some 35 := fun z => of_decide_eq_false e ((take1 l).mpr z)
      have hw : wordsOf l = words l := if_neg hh
      rw [hw] at q
      refine st_next ?_
      refine ⟨by show 0 ≤ sizeLine; decide, fun p np => ⟨by show 1 ≤ sizeLine; decide, fun fa nf => ?_⟩⟩
      have S0 := SplAt.begin np nf
      have hS1 := s1.seq hS
      refine ⟨_, rfl, a, rfl, ⟨_, S0.sm.seq hS1⟩, for_list (K := K) (a := a) (xs := iv l) (fun i σ H' => ∃ (v : Option V) (refs : List Addr), σ = [some (.ref a), some (.ref fa), v, none] ∧ SplAt H1 H' fa refs (spl 32 (l.take i)))
        ⟨none, [p], rfl, S0⟩ (fun i σ H' _ ⟨_, _, _, S⟩ => S.sm.seq hS1) ?_ ?_⟩
      · rintro i x σ H2 hx ⟨v, refs, rfl, S⟩
        obtain ⟨n, hn, rfl⟩ := iv_at hx
        refine split_turn (K := K) (c := 32) (x := n) rfl rfl S (Nat.le_trans (List.length_take_le _ _) ?_) fun H' refs' S' => ?_
        · have := (List.getElem?_eq_some_iff.mp hn).1
          omega
        · rw [← take_more hn] at S'
          exact ⟨_, refs', rfl, S'⟩
      · rintro σ H2 ⟨v, refs, rfl, S⟩
        rw [iv_len, List.take_length] at S
        have hrl := S.rw.len
        have hsl := (spl_len 32 l).1
        show tLc (iList K (tVar 1)) (gName 3) (tTest (tOp (rNeD K) (tVar 3) (tLst tNil))) (tVar 3) [3] [some (.ref a), some (.ref fa), v, none] H2 Q
        refine lc_pure (notNil H2) id (val_var rfl) (SqL.of S.fl) (by rw [List.length_map]; omega) ?_ (fun v _ _ H' _ => vs_of (val_var rfl)) fun D H3 nD s3 d => ?_
        · intro x hx H3 s3
          obtain ⟨b, hb, rfl⟩ := List.mem_map.mp hx
          obtain ⟨i, hi, e⟩ := List.getElem_of_mem hb
          obtain ⟨b', h1, h2⟩ := S.rw.get (i := i) (List.getElem?_eq_getElem (by omega))
          rw [List.getElem?_eq_getElem hi, e] at h1
          cases Option.some.inj h1
          generalize (spl 32 l)[i]'(by omega) = wd at h2
          refine as_to (as_neNil (ds := dN wd) (val_var rfl) (SqL.of (s3 _ _ h2)) (fun H' _ => dp_all wd) fun d hd => int_flat hd) ?_
          unfold notNil
          simp only [h2]
          unfold dN iv
          cases wd <;> rfl
        · rw [List.map_id] at d
          have e : (refs.map V.ref).filter (notNil H2) = (refs.filter fun b => notNil H2 (.ref b)).map V.ref := by
            rw [List.filter_map]
            rfl
          rw [e] at d
          exact q H3 D _ (s1.trans (S.sm.trans s3)) d (S.rw.filter.same s3)
end
end Sal
namespace Sal
open PySem PySem.Spec PyProof.Rows L2
open Mu17 (Works Pan Day)
/-! ### the promises -/
def spIsName (K : PySem.W.Frag) : Sp := fun vs H Q _ => ∃ (a : Addr) (wd : List Nat), vs = [.ref a] ∧ SqL K H a (iv wd) ∧ wd.length ≤ 2000 ∧ ∀ H', Same H H' → Q (.bl (isName wd)) H'
def spIsNumber (K : PySem.W.Frag) : Sp := fun vs H Q _ => ∃ (a : Addr) (wd : List Nat), vs = [.ref a] ∧ SqL K H a (iv wd) ∧ wd.length ≤ 2000 ∧ wd ≠ [] ∧ ∀ H', Same H H' → Q (.bl (isNumber wd)) H'
def spWorth (K : PySem.W.Frag) : Sp := fun vs H Q _ => ∃ (a : Addr) (wd : List Nat), vs = [.ref a] ∧ SqL K H a (iv wd) ∧ wd.all Mu17.digit = true ∧ Q (.int (Mu17.numberOf wd : Nat)) H
/-- a list of words -/
structure WordsAt (K : PySem.W.Frag) (H : Hp) (a : Addr) (refs : List Addr) (ws : List (List Nat)) : Prop where
  sq : H a = some (.lst (refs.map V.ref))
  rw : Rows H refs ws
  ne : ∀ wd ∈ ws, wd ≠ []
  sm : ∀ wd ∈ ws, wd.length ≤ 2000
  ln : ws.length ≤ 2001
  hd : ws ≠ []
def spAsTold (K : PySem.W.Frag) : Sp := fun vs H Q _ => ∃ (a : Addr) (refs : List Addr) (ws : List (List Nat)), vs = [.ref a] ∧ WordsAt K H a refs ws ∧ ∀ H', Same H H' → Q (.bl (asTold ws)) H'
def spTooMany (A : Ad) (K : PySem.W.Frag) : Sp := fun vs H Q _ => ∃ (p : PlA) (W : Works) (a : Addr) (wd : List Nat), vs = [.ref p.pl, .ref a] ∧ PlanAt A.cPlan H p W ∧ SqL K H a (iv wd) ∧ Q (.bl (tooMany W wd)) H
def spInBounds (K : PySem.W.Frag) : Sp := fun vs H Q _ => ∃ (a b : Addr) (wd ns : List Nat), vs = [.ref a, .ref b] ∧ SqL K H a (iv wd) ∧ SqL K H b (iv ns) ∧ 1 ≤ ns.length ∧ (wd = kPAN ∨ wd = kDAY → 2 ≤ ns.length) ∧ Q (.bl (inBounds wd ns)) H
section
variable {K : PySem.W.Frag} {H : Hp} {σ : L2.St} {te to ti : TE}
theorem WordsAt.same {H' : Hp} {a : Addr} {refs : List Addr} {ws : List (List Nat)} (h : WordsAt K H a refs ws) (s : Same H H') : WordsAt K H' a refs ws := ⟨s _ _ h.sq, h.rw.same s, h.ne, h.sm, h.ln, h.hd⟩
/-- words[i] -/
theorem WordsAt.at_ {a : Addr} {refs : List Addr} {ws : List (List Nat)} {i : Nat} (h : WordsAt K H a refs ws) (hi : i < ws.length) (ho : Val to σ H (.ref a)) (hx : Val ti σ H (.int (i : Int))) : ∃ b, Val (tOp (rIxL K) to ti) σ H (.ref b) ∧ H b = some (.lst (iv (ws.getD i []))) := by
  obtain ⟨b, h1, h2⟩ := h.rw.get (i := i) (List.getElem?_eq_getElem hi)
  refine ⟨b, val_ixL ho hx (SqL.of h.sq) (atI_nat (by rw [List.getElem?_map, h1]; rfl)), ?_⟩
  rw [h2]
  congr 3
  rw [List.getD_eq_getElem?_getD, List.getElem?_eq_getElem hi]
  rfl
theorem iv_getD {l : List Nat} {i : Nat} (h : i < l.length) : atI (iv l) (i : Int) = some (.int ((l.getD i 0 : Nat) : Int)) := atI_nat (by
  unfold iv
  rw [List.getElem?_map, List.getElem?_eq_getElem h, List.getD_eq_getElem?_getD, List.getElem?_eq_getElem h]
  rfl)
theorem val_lenI {a : Addr} {l : List Nat} (ho : Val te σ H (.ref a)) (h : SqL K H a (iv l)) : Val (tCB (fun xs H Q => ∃ p ys, xs = [.ref p] ∧ (SqL K H p ys ∨ SqT K H p ys) ∧ Q (.int ys.length) H) (tCons te tNil)) σ H (.int (l.length : Int)) := by
  have q := val_len (K := K) ho h
  rw [iv_len] at q
  exact q
/-- all([lo <= byte <= hi for byte in word]) -/
theorem vs_between {k : Nat} {a : Addr} {l : List Nat} {lo hi : Nat} (ho : Val te σ H (.ref a)) (h : SqL K H a (iv l)) (hn : l.length ≤ 2000) (hk : k < σ.length) :
    ValS (tCB (rAll K) (tCons (tLc (iList K te) (gName k) tYes (tChain (rI0 fun i j => .bl (decide (i ≤ j))) (rI0 fun i j => .bl (decide (i ≤ j))) (tC (.int (lo : Int))) (tVar k) (tC (.int (hi : Int)))) [k]) tNil)) σ H (.bl (l.all fun c => decide (lo ≤ c) && decide (c ≤ hi))) := by
  refine vs_to (vs_all (fun v => match v with | .int i => decide ((lo : Int) ≤ i) && decide (i ≤ (hi : Int)) | _ => false) ho h (by rw [iv_len]; omega) ?_) ?_
  · intro x hx H' s
    obtain ⟨n, _, rfl⟩ := List.mem_map.mp hx
    have hv : ((wipe σ [k]).set k (some (V.int (n : Int))))[k]? = some (some (V.int (n : Int))) := by
      rw [List.getElem?_set]
      have : (wipe σ [k]).length = σ.length := wipe_length σ [k]
      rw [if_pos rfl, if_pos (by omega)]
    exact vs_of (val_chain val_c (val_var hv) val_c)
  · refine congrArg V.bl ?_
    unfold iv
    rw [List.all_map]
    refine List.all_congr rfl fun n => ?_
    show (decide ((lo : Int) ≤ (n : Int)) && decide ((n : Int) ≤ (hi : Int))) = _
    congr 1
    · exact decide_eq_decide.mpr (by omega)
    · exact decide_eq_decide.mpr (by omega)
end
section
variable {P : Program} {w : World} {K : PySem.W.Frag} {mg : Str → Option Value} {base : Heap} {A : Ad}
theorem ok_isName (T : Txt K mg A) : FnOk P w K mg base CX0 1 A.f_isName A.d_isName ["word"] (spIsName K) := by
  refine T.F_isName.ok sc_isName (fun vs H Q E h => ?_) (fun cdv Ar outer s H vs Q E hr h => ⟨_, pss_one (ps_ret (pe_and (pe_cmpR op_le (pe_callB call_len_seq (by rfl) T.blen PySem.boot_len (pa_cons (pv 0) pa_nil)) (pe_ci rfl T.kMOST_LETTERS) (nomark _))
    (pe_one (pe_callB (cr_all rfl) (by rfl) T.ball (by decide +kernel) (pa_cons (pe_lc (own := [("byte", 1)]) (g := gName 1) (tt := tYes) (te := tChain (rI0 fun i j => .bl (decide (i ≤ j))) (rI0 fun i j => .bl (decide (i ≤ j))) (tC (.int ((97 : Nat) : Int))) (tVar 1) (tC (.int ((122 : Nat) : Int)))) rfl sc_isName.nd (pi_list (pv 0)) (blkOk_by (N := ["word", "byte"]) (sc := defScope s_isName) (by decide +kernel)) (fun _ _ _ _ _ => pg_name (i := 1) sc_isName.nd rfl (Or.inl rfl)) (fun _ _ _ _ _ => pts_nil) (fun _ _ _ _ _ => pe_chain op_le op_le pe_int (pv 1) pe_int)) pa_nil))))), ?_⟩)
  · obtain ⟨_, _, rfl, _⟩ := h
    rfl
  · obtain ⟨a, wd, rfl, hS, hl, q⟩ := h
    refine ss_ret (vs_to (vs_and (vs_of (val_I0 (val_lenI (val_var rfl) hS) val_c)) fun _ H' s' => vs_between (val_var rfl) (s'.seq hS) hl (by show 1 < 2; decide)) (v' := .bl (isName wd)) ?_) q
    unfold isName
    refine congrArg V.bl ?_
    congr 1
    exact decide_eq_decide.mpr (by omega)
theorem ok_isNumber (T : Txt K mg A) : FnOk P w K mg base CX0 1 A.f_isNumber A.d_isNumber ["word"] (spIsNumber K) := by
  refine T.F_isNumber.ok sc_isNumber (fun vs H Q E h => ?_) (fun cdv Ar outer s H vs Q E hr h => ⟨_, pss_cons (ps_if (PW.pt (pw_or (pt_cmpR op_gt (pe_callB call_len_seq (by rfl) T.blen PySem.boot_len (pa_cons (pv 0) pa_nil)) (pe_ci rfl T.kMOST_DIGITS) (nomark _))
      (pw_or1 (pt_not (pt_val (pe_callB (cr_all rfl) (by rfl) T.ball (by decide +kernel) (pa_cons (pe_lc (own := [("byte", 1)]) (g := gName 1) (tt := tYes) (te := tChain (rI0 fun i j => .bl (decide (i ≤ j))) (rI0 fun i j => .bl (decide (i ≤ j))) (tC (.int ((48 : Nat) : Int))) (tVar 1) (tC (.int ((57 : Nat) : Int)))) rfl sc_isNumber.nd (pi_list (pv 0)) (blkOk_by (N := ["word", "byte"]) (sc := defScope s_isNumber) (by decide +kernel)) (fun _ _ _ _ _ => pg_name (i := 1) sc_isNumber.nd rfl (Or.inl rfl)) (fun _ _ _ _ _ => pts_nil) (fun _ _ _ _ _ => pe_chain op_le op_le pe_int (pv 1) pe_int)) pa_nil))))))) (pss_one (ps_ret pe_bl)) pss_nil)
    (pss_one (ps_ret (pe_or (pe_cmpR op_eq (pe_callB call_len_seq (by rfl) T.blen PySem.boot_len (pa_cons (pv 0) pa_nil)) pe_int (nomark _)) (pe_one (pe_cmpR op_ne (pe_ix ix_list (pv 0) pe_int (fun _ _ => rfl)) pe_int (nomark _)))))), ?_⟩)
  · obtain ⟨_, _, rfl, _⟩ := h
    rfl
  · obtain ⟨a, wd, rfl, hS, hl, hne, q⟩ := h
    have hpos : 0 < wd.length := List.length_pos_iff.mpr hne
    have hdig : (wd.all fun c => decide (48 ≤ c) && decide (c ≤ 57)) = wd.all Mu17.digit := rfl
    refine ss_if (b := decide (4 < wd.length) || !wd.all Mu17.digit) (as_to (as_or (as_of (an_gt (val_lenI (val_var rfl) hS) val_c rfl)) fun _ H' s' => as_not (as_val (vs_between (val_var rfl) (s'.seq hS) hl (by show 1 < 2; decide)))) ?_) (fun e H1 s1 => ?_) (fun e H1 s1 => ?_)
    · rw [hdig]
      congr 1
      exact decide_eq_decide.mpr (by omega)
    · have hq : isNumber wd = false := by unfold isNumber; rw [e]; rfl
      rw [hq] at q
      exact q H1 s1
    · have hq : isNumber wd = (wd.length == 1 || wd.getD 0 0 != 48) := by unfold isNumber; rw [e]; rfl
      rw [hq] at q
      refine st_next ?_
      have hS1 := s1.seq hS
      refine ss_ret (D := { nx := fun _ H' => Q .non H', rt := Q }) (vs_to (vs_or (a := wd.length == 1) (b := wd.getD 0 0 != 48) (vs_of (val_eqI (val_lenI (val_var rfl) hS1) val_c ?_)) fun _ H2 s2 => ?_) rfl) fun H2 s2 => q H2 (s1.trans s2)
      · by_cases z : wd.length = 1
        · rw [decide_eq_true (by omega)]; simp [z]
        · rw [decide_eq_false (by omega)]; simp [z]
      · refine vs_of (val_op (val_ixL (val_var rfl) val_c (s2.seq hS1) (iv_getD hpos)) val_c fun Q q => ⟨rfl, ?_⟩)
        have e2 : (!decide (V.int ((wd.getD 0 0 : Nat) : Int) = V.int 48)) = (wd.getD 0 0 != 48) := by
          by_cases z : wd.getD 0 0 = 48
          · rw [z]; rfl
          · have : ¬ V.int ((wd.getD 0 0 : Nat) : Int) = V.int 48 := fun y => z (by injection y with y; omega)
            rw [decide_eq_false this]
            simpa using z
        rw [e2]
        exact q
theorem ok_worth (T : Txt K mg A) : FnOk P w K mg base CX0 1 A.f_worth A.d_worth ["word"] (spWorth K) := by
  refine T.F_worth.ok sc_worth (fun vs H Q E h => ?_) (fun cdv Ar outer s H vs Q E hr h => ⟨_, pss_cons (ps_set (i := 1) sc_worth.nd rfl (Or.inl rfl) pe_int)
    (pss_cons (ps_for PassesOwn.never rfl (pi_list (pv 0)) (pg_name (i := 2) sc_worth.nd rfl (Or.inl rfl)) (pss_one (ps_set (i := 1) sc_worth.nd rfl (Or.inl rfl) (pe_op op_sub (pe_op op_add (pe_op op_mul pe_int (pv 1)) (pv 2)) pe_int))))
    (pss_one (ps_ret (pv 1)))), ?_⟩)
  · obtain ⟨_, _, rfl, _⟩ := h
    rfl
  · obtain ⟨a, wd, rfl, hS, hd, q⟩ := h
    refine ⟨_, rfl, a, rfl, ⟨_, hS⟩, for_list (K := K) (a := a) (xs := iv wd) (fun i σ H' => ∃ v : Option V, σ = [some (.ref a), some (.int (Mu17.numberOf (wd.take i) : Nat)), v] ∧ H' = H) ⟨none, rfl, rfl⟩ (fun i σ H' _ ⟨_, _, e⟩ => by rw [e]; exact hS) ?_ ?_⟩
    · rintro i x σ H1 hx ⟨v, rfl, rfl⟩
      obtain ⟨n, hn, rfl⟩ := iv_at hx
      have hdn : Mu17.digit n = true := List.all_eq_true.mp hd n (List.mem_of_getElem? hn)
      unfold Mu17.digit at hdn
      rw [Bool.and_eq_true, decide_eq_true_iff, decide_eq_true_iff] at hdn
      have e : Mu17.numberOf (wd.take (i + 1)) = 10 * Mu17.numberOf (wd.take i) + (n - 48) := by
        unfold Mu17.numberOf
        rw [take_more hn, List.foldl_append]
        rfl
      refine st_set (val_to (val_I0 (val_I0 (val_I val_c (val_var rfl) (by exact .inl ⟨by decide, by decide⟩)) (val_var rfl)) val_c) (v' := .int ((Mu17.numberOf (wd.take (i + 1)) : Nat) : Int)) ?_) ⟨_, rfl, rfl⟩
      rw [e]
      refine congrArg V.int ?_
      omega
    · rintro σ H1 ⟨v, rfl, rfl⟩
      rw [iv_len, List.take_length]
      exact ⟨_, rfl, q⟩
end
end Sal
namespace Sal
open PySem PySem.Spec PyProof.Rows L2
open Mu17 (Works Pan Day)
section
variable {σ : L2.St} {H : Hp} {tt : TT} {te tl : TE} {K : PySem.W.Frag}
/-- a comprehension over a list that is made for it -/
theorem lc_made {k : Nat} {xs : List V} (p : V → Bool) (f : V → V) (hl : ∀ Q : VK, (∀ ad H1, Same H H1 → H1 ad = some (.lst xs) → Q (.ref ad) H1) → tl σ H Q) (hn : xs.length ≤ 100000)
    (ht : ∀ x ∈ xs, ∀ H', Same H H' → AnsS tt ((wipe σ [k]).set k (some x)) H' (p x)) (he : ∀ x ∈ xs, p x = true → ∀ H', Same H H' → ValS te ((wipe σ [k]).set k (some x)) H' (f x)) {Q : VK}
    (q : ∀ D H', H D = none → Same H H' → H' D = some (.lst ((xs.filter p).map f)) → Q (.ref D) H') : tLc (iList K tl) (gName k) tt te [k] σ H Q := by
  refine hl _ fun ad H1 s1 hs => ?_
  exact lc_pure (K := K) (tl := tC (.ref ad)) (σ := σ) (H := H1) (k := k) (tt := tt) (te := te) p f val_c (SqL.of hs) hn (fun x hx H' s => ht x hx H' (s1.trans s)) (fun x hx hp H' s => he x hx hp H' (s1.trans s)) fun D H' nD s d => q D H' (s1.free nD) (s1.trans s) d
theorem vs_isNumber {b : Addr} {wd : List Nat} (h : Val te σ H (.ref b)) (hs : SqL K H b (iv wd)) (hl : wd.length ≤ 2000) (hn : wd ≠ []) : ValS (tCall (spIsNumber K) [] E0 (tCons te tNil)) σ H (.bl (isNumber wd)) := fun Q q => h _ ⟨b, wd, rfl, hs, hl, hn, q⟩
theorem vs_isName {b : Addr} {wd : List Nat} (h : Val te σ H (.ref b)) (hs : SqL K H b (iv wd)) (hl : wd.length ≤ 2000) : ValS (tCall (spIsName K) [] E0 (tCons te tNil)) σ H (.bl (isName wd)) := fun Q q => h _ ⟨b, wd, rfl, hs, hl, q⟩
end
section
variable {P : Program} {w : World} {K : PySem.W.Frag} {mg : Str → Option Value} {base : Heap} {A : Ad}
theorem ok_asTold (T : Txt K mg A) : FnOk P w K mg base CX0 2 A.f_asTold A.d_asTold ["words"] (spAsTold K) := by
  refine T.F_asTold.ok sc_asTold (fun vs H Q E h => ?_) (fun cdv Ar outer s H vs Q E hr h => ⟨_, pss_cons (ps_if (PW.pt (pw_or (pt_cmpR (op_eqD hr.units) (pe_ix ix_list (pv 0) pe_int (fun _ _ => rfl)) (pe_cr rfl T.gPAN) (nomark _)) (pw_or1 (pt_cmpR (op_eqD hr.units) (pe_ix ix_list (pv 0) pe_int (fun _ _ => rfl)) (pe_cr rfl T.gDAY) (nomark _)))))
      (pss_one (ps_ret (pe_and (pe_cmpR op_eq (pe_callB call_len_seq (by rfl) T.blen PySem.boot_len (pa_cons (pv 0) pa_nil)) pe_int (nomark _)) (pe_and (pe_call (ok_isNumber T) hr rfl T.g_isNumber T.F_isNumber.kp T.b_isNumber .nil pass0 (pa_cons (pe_ix ix_list (pv 0) pe_int (fun _ _ => rfl)) pa_nil)) (pe_one (pe_call (ok_isNumber T) hr rfl T.g_isNumber T.F_isNumber.kp T.b_isNumber .nil pass0 (pa_cons (pe_ix ix_list (pv 0) pe_int (fun _ _ => rfl)) pa_nil))))))) pss_nil)
    (pss_one (ps_ret (pe_and (pe_cmpR (op_eqD hr.units) (pe_ix ix_list (pv 0) pe_int (fun _ _ => rfl)) (pe_cr rfl T.gSEA) (nomark _)) (pe_and (pe_cmpR op_eq (pe_callB call_len_seq (by rfl) T.blen PySem.boot_len (pa_cons (pv 0) pa_nil)) pe_int (nomark _)) (pe_one (pe_call (ok_isNumber T) hr rfl T.g_isNumber T.F_isNumber.kp T.b_isNumber .nil pass0 (pa_cons (pe_ix ix_list (pv 0) pe_int (fun _ _ => rfl)) pa_nil))))))), ?_⟩)
  · obtain ⟨_, _, _, rfl, _⟩ := h
    rfl
  · obtain ⟨a, refs, ws, rfl, hw, q⟩ := h
    have h0 : 0 < ws.length := List.length_pos_iff.mpr hw.hd
    have wne : ∀ i, i < ws.length → ws.getD i [] ≠ [] ∧ (ws.getD i []).length ≤ 2000 := fun i hi => by
      have hm : ws.getD i [] ∈ ws := by
        rw [List.getD_eq_getElem?_getD, List.getElem?_eq_getElem hi]
        exact List.getElem_mem hi
      exact ⟨hw.ne _ hm, hw.sm _ hm⟩
    have hlen : ∀ H', Same H H' → Val (tCB (fun xs H Q => ∃ p ys, xs = [.ref p] ∧ (SqL K H p ys ∨ SqT K H p ys) ∧ Q (.int ys.length) H) (tCons (tVar 0) tNil)) (start ["words"] [.ref a]) H' (.int (ws.length : Int)) := fun H' s' => by
      have q := val_len (K := K) (σ := start ["words"] [.ref a]) (val_var (i := 0) rfl) (SqL.of (hw.same s').sq)
      rw [List.length_map, hw.rw.len] at q
      exact q
    have hnum : ∀ (i : Nat) (iz : Int), iz = (i : Int) → i < ws.length → ∀ H', Same H H' → ValS (tCall (spIsNumber K) [] E0 (tCons (tOp (rIxL K) (tVar 0) (tC (.int iz))) tNil)) (start ["words"] [.ref a]) H' (.bl (isNumber (ws.getD i []))) := fun i iz hz hi H' s' => by
      subst hz
      obtain ⟨b, h1, h2⟩ := (hw.same s').at_ (K := K) (i := i) (σ := start ["words"] [.ref a]) hi (val_var (i := 0) rfl) val_c
      exact vs_isNumber h1 (SqL.of h2) (wne i hi).2 (wne i hi).1
    have heq : ∀ (k : Addr) (m : List Nat), KL K k (iv m) → ∀ H', Same H H' → Val (tOp (rEqD K) (tOp (rIxL K) (tVar 0) (tC (.int 0))) (tC (.ref k))) (start ["words"] [.ref a]) H' (.bl (decide (w0 ws = m))) := fun k m hk H' s' => by
      obtain ⟨b, h1, h2⟩ := (hw.same s').at_ (K := K) (i := 0) (σ := start ["words"] [.ref a]) h0 (val_var (i := 0) rfl) val_c
      exact val_eqL h1 val_c (SqL.of h2) (hk.sq H')
    refine ss_if (as_or (as_test (vs_of (heq _ kPAN T.lPAN H (Same.refl H)))) fun _ H' s' => as_test (vs_of (heq _ kDAY T.lDAY H' s'))) (fun e H1 s1 => ?_) (fun e H1 s1 => ?_)
    · have hc : w0 ws = kPAN ∨ w0 ws = kDAY := by
        rw [Bool.or_eq_true, decide_eq_true_iff, decide_eq_true_iff] at e
        exact e
      have hq : asTold ws = (decide (ws.length = 3) && (isNumber (ws.getD 1 []) && isNumber (ws.getD 2 []))) := if_pos hc
      rw [hq] at q
      refine ss_ret (vs_and (a := decide (ws.length = 3)) (vs_of (val_eqI (hlen H1 s1) val_c ?_)) fun e3 H2 s2 => ?_) fun H2 s2 => q H2 (s1.trans s2)
      · exact decide_eq_decide.mpr (by omega)
      · have h3 : ws.length = 3 := of_decide_eq_true e3
        exact vs_and (hnum 1 1 rfl (by omega) H2 (s1.trans s2)) fun _ H3 s3 => hnum 2 2 rfl (by omega) H3 ((s1.trans s2).trans s3)
    · have hc : ¬ (w0 ws = kPAN ∨ w0 ws = kDAY) := by
        rw [Bool.or_eq_false_iff, decide_eq_false_iff_not, decide_eq_false_iff_not] at e
        rintro (z | z)
        · exact e.1 z
        · exact e.2 z
      have hq : asTold ws = (decide (w0 ws = kSEA) && (decide (ws.length = 2) && isNumber (ws.getD 1 []))) := if_neg hc
      rw [hq] at q
      refine st_next ?_
      refine ss_ret (D := { nx := fun _ H' => Q .non H', rt := Q }) (vs_and (vs_of (heq _ kSEA T.lSEA H1 s1)) fun _ H2 s2 => vs_and (a := decide (ws.length = 2)) (vs_of (val_eqI (hlen H2 (s1.trans s2)) val_c ?_)) fun e3 H3 s3 => ?_) fun H2 s2 => q H2 (s1.trans s2)
      · exact decide_eq_decide.mpr (by omega)
      · have h2 : ws.length = 2 := of_decide_eq_true e3
        exact hnum 1 1 rfl (by omega) H3 ((s1.trans s2).trans s3)
theorem ok_tooMany (T : Txt K mg A) : FnOk P w K mg base CX0 1 A.f_tooMany A.d_tooMany ["plan", "word"] (spTooMany A K) := by
  refine T.F_tooMany.ok sc_tooMany (fun vs H Q E h => ?_) (fun cdv Ar outer s H vs Q E hr h => ⟨_, pss_one (ps_ret (pe_or (pe_and (pe_cmpR (op_eqD hr.units) (pv 1) (pe_cr rfl T.gPAN) (nomark _)) (pe_one (pe_cmpR op_ge (pe_callB call_len_seq (by rfl) T.blen PySem.boot_len (pa_cons (pe_fld (pv 0) rfl) pa_nil)) (pe_ci rfl T.kMOST_PANS) (nomark _))))
    (pe_one (pe_and (pe_cmpR (op_eqD hr.units) (pv 1) (pe_cr rfl T.gDAY) (nomark _)) (pe_one (pe_cmpR op_ge (pe_callB call_len_seq (by rfl) T.blen PySem.boot_len (pa_cons (pe_fld (pv 0) rfl) pa_nil)) (pe_ci rfl T.kMOST_DAYS_texts) (nomark _))))))), ?_⟩)
  · obtain ⟨_, _, _, _, rfl, _⟩ := h
    rfl
  · obtain ⟨p, W, a, wd, rfl, hp, hS, q⟩ := h
    have hlp : Val (tCB (fun xs H Q => ∃ p ys, xs = [.ref p] ∧ (SqL K H p ys ∨ SqT K H p ys) ∧ Q (.int ys.length) H) (tCons (tFld K (tVar 0) "pans") tNil)) (start ["plan", "word"] [.ref p.pl, .ref a]) H (.int (W.pans.length : Int)) := by
      have q := val_len (K := K) (σ := start ["plan", "word"] [.ref p.pl, .ref a]) (val_fld (val_var (i := 0) rfl) hp.obj T.clPlan T.nPlan_pans (lF_pans _ _)) (SqL.of hp.lp)
      rw [List.length_map, hp.np] at q
      exact q
    have hld : Val (tCB (fun xs H Q => ∃ p ys, xs = [.ref p] ∧ (SqL K H p ys ∨ SqT K H p ys) ∧ Q (.int ys.length) H) (tCons (tFld K (tVar 0) "days") tNil)) (start ["plan", "word"] [.ref p.pl, .ref a]) H (.int (W.days.length : Int)) := by
      have q := val_len (K := K) (σ := start ["plan", "word"] [.ref p.pl, .ref a]) (val_fld (val_var (i := 0) rfl) hp.obj T.clPlan T.nPlan_days (lF_days _ _)) (SqL.of hp.ld)
      rw [List.length_map, hp.nd] at q
      exact q
    -- every way by itself: nothing is laid
    have vand : ∀ {ta tb : TE} {c d : Bool}, Val ta (start ["plan", "word"] [.ref p.pl, .ref a]) H (.bl c) → Val tb (start ["plan", "word"] [.ref p.pl, .ref a]) H (.bl d) → Val (tAndV ta tb) (start ["plan", "word"] [.ref p.pl, .ref a]) H (.bl (c && d)) := by
      intro ta tb c d h1 h2 Q q
      refine h1 _ ⟨c, rfl, ?_⟩
      cases c with
      | true => exact iteT (h2 _ q)
      | false => exact iteF q
    have vor : ∀ {ta tb : TE} {c d : Bool}, Val ta (start ["plan", "word"] [.ref p.pl, .ref a]) H (.bl c) → Val tb (start ["plan", "word"] [.ref p.pl, .ref a]) H (.bl d) → Val (tOrV ta tb) (start ["plan", "word"] [.ref p.pl, .ref a]) H (.bl (c || d)) := by
      intro ta tb c d h1 h2 Q q
      refine h1 _ ⟨c, rfl, ?_⟩
      cases c with
      | true => exact iteT q
      | false => exact iteF (h2 _ q)
    refine st_ret (val_to (vor (vand (val_eqL (m := kPAN) (val_var rfl) val_c hS (T.lPAN.sq H)) (val_I0 hlp val_c)) (vand (val_eqL (m := kDAY) (val_var rfl) val_c hS (T.lDAY.sq H)) (val_I0 hld val_c))) (v' := .bl (tooMany W wd)) ?_) q
    unfold tooMany
    refine congrArg V.bl ?_
    congr 1
    · congr 1
      exact decide_eq_decide.mpr (by omega)
    · congr 1
      exact decide_eq_decide.mpr (by omega)
theorem ok_inBounds (T : Txt K mg A) : FnOk P w K mg base CX0 1 A.f_inBounds A.d_inBounds ["word", "numbers"] (spInBounds K) := by
  refine T.F_inBounds.ok sc_inBounds (fun vs H Q E h => ?_) (fun cdv Ar outer s H vs Q E hr h => ⟨_, pss_cons (ps_if (pt_cmpR (op_eqD hr.units) (pv 0) (pe_cr rfl T.gPAN) (nomark _)) (pss_one (ps_ret (pe_and (pe_chain op_le op_le pe_int (pe_ix ix_list (pv 1) pe_int (fun _ _ => rfl)) pe_int) (pe_one (pe_chain op_le op_le pe_int (pe_ix ix_list (pv 1) pe_int (fun _ _ => rfl)) pe_int))))) pss_nil)
    (pss_cons (ps_if (pt_cmpR (op_eqD hr.units) (pv 0) (pe_cr rfl T.gDAY) (nomark _)) (pss_one (ps_ret (pe_and (pe_cmpR op_le (pe_ix ix_list (pv 1) pe_int (fun _ _ => rfl)) pe_int (nomark _)) (pe_one (pe_cmpR op_le (pe_ix ix_list (pv 1) pe_int (fun _ _ => rfl)) pe_int (nomark _)))))) pss_nil)
    (pss_one (ps_ret (pe_chain op_le op_le pe_int (pe_ix ix_list (pv 1) pe_int (fun _ _ => rfl)) pe_int)))), ?_⟩)
  · obtain ⟨_, _, _, _, rfl, _⟩ := h
    rfl
  · obtain ⟨a, b, wd, ns, rfl, hS, hN, h1, h2, q⟩ := h
    have hat : ∀ (i : Nat) (iz : Int), iz = (i : Int) → i < ns.length → Val (tOp (rIxL K) (tVar 1) (tC (.int iz))) (start ["word", "numbers"] [.ref a, .ref b]) H (.int ((ns.getD i 0 : Nat) : Int)) := fun i iz hz hi => by
      subst hz
      exact val_ixL (val_var (i := 1) rfl) val_c hN (iv_getD hi)
    have vand : ∀ {ta tb : TE} {c d : Bool}, Val ta (start ["word", "numbers"] [.ref a, .ref b]) H (.bl c) → Val tb (start ["word", "numbers"] [.ref a, .ref b]) H (.bl d) → Val (tAndV ta tb) (start ["word", "numbers"] [.ref a, .ref b]) H (.bl (c && d)) := by
      intro ta tb c d h1 h2 Q q
      refine h1 _ ⟨c, rfl, ?_⟩
      cases c with
      | true => exact iteT (h2 _ q)
      | false => exact iteF q
    have bt : ∀ n lo hi : Nat, (decide ((lo : Int) ≤ (n : Int)) && decide ((n : Int) ≤ (hi : Int))) = Mu17.between n lo hi := fun n lo hi => by
      unfold Mu17.between
      congr 1
      · exact decide_eq_decide.mpr (by omega)
      · exact decide_eq_decide.mpr (by omega)
    refine st_if (ans_eqL (m := kPAN) (val_var rfl) val_c hS (T.lPAN.sq H)) (fun e => ?_) (fun e => ?_)
    · have hc := of_decide_eq_true e
      have hl := h2 (.inl hc)
      have hq : inBounds wd ns = (Mu17.between (ns.getD 0 0) 1 20 && Mu17.between (ns.getD 1 0) 1 999) := if_pos hc
      rw [hq] at q
      refine st_ret (val_to (vand (val_chain val_c (hat 0 0 rfl (by omega)) val_c) (val_chain val_c (hat 1 1 rfl (by omega)) val_c)) ?_) q
      refine congrArg V.bl ?_
      rw [← bt (ns.getD 0 0) 1 20, ← bt (ns.getD 1 0) 1 999]
      rfl
    · have hc := of_decide_eq_false e
      refine st_next ?_
      refine st_if (ans_eqL (m := kDAY) (val_var rfl) val_c hS (T.lDAY.sq H)) (fun e' => ?_) (fun e' => ?_)
      · have hc' := of_decide_eq_true e'
        have hl := h2 (.inr hc')
        have hq : inBounds wd ns = (decide (ns.getD 0 0 ≤ 20) && decide (ns.getD 1 0 ≤ 20)) := (if_neg hc).trans (if_pos hc')
        rw [hq] at q
        refine st_ret (val_to (vand (val_I0 (hat 0 0 rfl (by omega)) val_c) (val_I0 (hat 1 1 rfl (by omega)) val_c)) ?_) q
        refine congrArg V.bl ?_
        congr 1
        · exact decide_eq_decide.mpr (by omega)
        · exact decide_eq_decide.mpr (by omega)
      · have hc' := of_decide_eq_false e'
        have hq : inBounds wd ns = Mu17.between (ns.getD 0 0) 4 99 := (if_neg hc).trans (if_neg hc')
        rw [hq] at q
        refine st_next ?_
        refine st_ret (D := { nx := fun _ H' => Q .non H', rt := Q }) (val_to (val_chain val_c (hat 0 0 rfl (by omega)) val_c) ?_) q
        refine congrArg V.bl ?_
        rw [← bt (ns.getD 0 0) 4 99]
        rfl
end
end Sal
namespace Sal
open PySem PySem.Spec PyProof.Rows L2
open Mu17 (Works Pan Day)
/-! ### Fault, Plan -/
def spXInit (A : Ad) : Sp := fun vs H Q _ => ∃ (a : Addr) (v : V), vs = [.ref a, v] ∧ H a = some (exo a A.cFault none) ∧
  ∀ dx, H dx = none → dx ≠ a → Q .non (upd (upd H dx (exd dx [(("number" : Str), v)])) a (exo a A.cFault (some dx)))
def spLInit (A : Ad) : Sp := fun vs H Q _ => ∃ (x dx : Addr), vs = [.ref x] ∧ H x = some (.ins A.cPlan dx []) ∧
  ∀ H' pp dd, H pp = none → H dd = none → pp ≠ dd → PlanAt A.cPlan H' ⟨x, dx, pp, dd, [], []⟩ {} → Keeps [x] H H' → Q .non H'
/-- a fault's way out: its own dict d, new, holds the number -/
def Faults (A : Ad) (H : Hp) (k : Nat) (E : XK) : Prop := ∀ H' d, Same H H' → H d = none → H' d = some (.xd [(("number" : Str), .int (k : Int))]) → E (.ref A.cFault) (some d) H'
def spLookLine (A : Ad) (K : PySem.W.Frag) : Sp := fun vs H Q E => ∃ (p : PlA) (W : Works) (a : Addr) (refs : List Addr) (ws : List (List Nat)), vs = [.ref p.pl, .ref a] ∧ PlanAt A.cPlan H p W ∧ WordsAt K H a refs ws ∧
  (∀ k, fault W ws = some k → Faults A H k E) ∧ (fault W ws = none → ∀ H', Same H H' → Q .non H')
theorem Faults.same {A : Ad} {H H1 : Hp} {k : Nat} {E : XK} (f : Faults A H k E) (s : Same H H1) : Faults A H1 k E := fun H' d s' nd hd => f H' d (s.trans s') (s.free nd) hd
/-! ### words read off the heap -/
def unV (xs : List V) : List Nat := xs.map fun v => match v with | .int i => i.toNat | _ => 0
theorem unV_iv : ∀ l : List Nat, unV (iv l) = l
  | [] => rfl
  | n :: l => by
    have ih := unV_iv l
    unfold unV iv at ih ⊢
    rw [List.map_cons, List.map_cons, ih]
    simp
/-- what a word is worth to g, by the heap -/
def byHeap {β : Type} (H : Hp) (g : List Nat → β) (z : β) : V → β
  | .ref b => match H b with
    | some (.lst xs) => g (unV xs)
    | _ => z
  | _ => z
theorem byHeap_at {β : Type} {H : Hp} {g : List Nat → β} {z : β} {b : Addr} {l : List Nat} (h : H b = some (.lst (iv l))) : byHeap H g z (.ref b) = g l := by
  unfold byHeap
  simp only [h, unV_iv]
theorem Rows.byHeap {β : Type} {H : Hp} {g : List Nat → β} {z : β} : ∀ {r : List Addr} {m : List (List Nat)}, Rows H r m → (r.map V.ref).map (Sal.byHeap H g z) = m.map g
  | [], [], _ => rfl
  | b :: r, l :: m, h => by
    rw [List.map_cons, List.map_cons, List.map_cons, byHeap_at h.1, Rows.byHeap h.2]
theorem Rows.drop1 {H : Hp} : ∀ {r : List Addr} {m : List (List Nat)}, Rows H r m → Rows H (r.drop 1) (m.drop 1)
  | [], [], _ => trivial
  | b :: r, l :: m, h => h.2
theorem Rows.mem {H : Hp} : ∀ {r : List Addr} {m : List (List Nat)} {b : Addr}, Rows H r m → b ∈ r → ∃ l ∈ m, H b = some (.lst (iv l))
  | b :: r, l :: m, c, h, hc => by
    rcases List.mem_cons.mp hc with e | e
    · subst e
      exact ⟨l, List.mem_cons_self, h.1⟩
    · obtain ⟨l', h1, h2⟩ := Rows.mem h.2 e
      exact ⟨l', List.mem_cons_of_mem _ h1, h2⟩
theorem asTold_nums {ws : List (List Nat)} (h : asTold ws = true) : (∀ wd ∈ ws.drop 1, wd.all Mu17.digit = true) ∧ 1 ≤ (ws.drop 1).length ∧ (w0 ws = kPAN ∨ w0 ws = kDAY → 2 ≤ (ws.drop 1).length) := by
  unfold asTold at h
  split at h
  · rename_i hc
    rw [Bool.and_eq_true, Bool.and_eq_true, decide_eq_true_iff] at h
    match ws, h with
    | [x, y, z], h =>
      refine ⟨fun wd hm => ?_, by show 1 ≤ 2; decide, fun _ => by show 2 ≤ 2; decide⟩
      have hm' : wd = y ∨ wd = z := by simpa using hm
      rcases hm' with e | e
      · rw [e]; exact number_digits h.2.1
      · rw [e]; exact number_digits h.2.2
  · rename_i hc
    rw [Bool.and_eq_true, Bool.and_eq_true, decide_eq_true_iff, decide_eq_true_iff] at h
    match ws, h with
    | [x, y], h =>
      refine ⟨fun wd hm => ?_, by show 1 ≤ 1; decide, fun z => absurd z hc⟩
      have hm' : wd = y := by simpa using hm
      rw [hm']; exact number_digits h.2.2
theorem cut_from1 (xs : List V) : cutV xs (some 1) none = xs.drop 1 := by
  unfold cutV
  have e1 : HT.sIx xs.length 0 (some 1) = min 1 xs.length := HT.sIx_nat _ _ 1
  rw [e1, HT.sIx_none]
  cases xs with
  | nil => rfl
  | cons x r =>
    have : min 1 (x :: r).length = 1 := by simp
    rw [this]
    exact List.take_of_length_le (by simp)
section
variable {K : PySem.W.Frag} {H : Hp} {σ : L2.St}
/-- [worth_of(word) for word in words[1:]] -/
theorem nums_made {k : Nat} {a : Addr} {refs : List Addr} {ws : List (List Nat)} (hw : WordsAt K H a refs ws) (h1 : σ[1]? = some (some (.ref a))) (hk : k < σ.length) (hd : ∀ wd ∈ ws.drop 1, wd.all Mu17.digit = true) {Q : VK}
    (q : ∀ D H', H D = none → Same H H' → H' D = some (.lst (iv (numsOf ws))) → Q (.ref D) H') : tLc (iList K (tSl (rSlL K) (tVar 1) (tPart (tC (.int 1))) tNoPart)) (gName k) tYes (tCall (spWorth K) [] E0 (tCons (tVar k) tNil)) [k] σ H Q := by
  have hR := hw.rw.drop1
  have hlen := hw.rw.len
  have hln := hw.ln
  refine lc_made (xs := (refs.drop 1).map V.ref) (fun _ => true) (byHeap H (fun l => V.int ((Mu17.numberOf l : Nat) : Int)) (.int 0)) (fun Q q => ?_) (by rw [List.length_map, List.length_drop]; omega) (fun x _ H' _ Q q => q H' (Same.refl H')) (fun x hx _ H' s => ?_) fun D H' nD s d => ?_
  · refine ⟨_, h1, 1, rfl, a, _, rfl, SqL.of hw.sq, fun p np => ?_⟩
    rw [cut_from1, ← List.map_drop]
    exact q p _ (Keeps.new (S := []) np).same upd_same
  · obtain ⟨b, hb, rfl⟩ := List.mem_map.mp hx
    obtain ⟨l, hl, hbl⟩ := hR.mem hb
    rw [byHeap_at hbl]
    have hv : ((wipe σ [k]).set k (some (V.ref b)))[k]? = some (some (V.ref b)) := by
      rw [List.getElem?_set]
      have : (wipe σ [k]).length = σ.length := wipe_length σ [k]
      rw [if_pos rfl, if_pos (by omega)]
    exact fun Q q => ⟨_, hv, b, l, rfl, SqL.of (s _ _ hbl), hd l hl, q H' (Same.refl H')⟩
  · rw [filter_all, hR.byHeap] at d
    refine q D H' nD s ?_
    rw [d]
    unfold iv numsOf
    rw [List.map_map]
    rfl
theorem st_nums {k i : Nat} {a : Addr} {refs : List Addr} {ws : List (List Nat)} {D : Ends} (hw : WordsAt K H a refs ws) (h1 : σ[1]? = some (some (.ref a))) (hk : k < σ.length) (hd : ∀ wd ∈ ws.drop 1, wd.all Mu17.digit = true)
    (q : ∀ L H', H L = none → Same H H' → H' L = some (.lst (iv (numsOf ws))) → D.nx (σ.set i (some (.ref L))) H') : tAsg (tLc (iList K (tSl (rSlL K) (tVar 1) (tPart (tC (.int 1))) tNoPart)) (gName k) tYes (tCall (spWorth K) [] E0 (tCons (tVar k) tNil)) [k]) (gName i) D σ H := nums_made hw h1 hk hd q
end
section
variable {P : Program} {w : World} {K : PySem.W.Frag} {mg : Str → Option Value} {base : Heap} {A : Ad}
theorem ok_xInit (T : Txt K mg A) : FnOk P w K mg base CX0 1 A.f_xInit A.d_xInit ["self", "number"] (spXInit A) := by
  refine T.F_xInit.ok sc_xInit (fun vs H Q E h => ?_) (fun cdv Ar outer s H vs Q E hr h => ⟨_, pss_one (ps_ost (pv 0) (pv 1)), ?_⟩)
  · obtain ⟨_, _, rfl, _⟩ := h
    rfl
  · obtain ⟨a, v, rfl, ha, q⟩ := h
    exact ⟨_, rfl, _, rfl, a, A.cFault, rfl, T.oFault, T.nFault_number, .inl ⟨ha, fun dx nd ne => q dx nd ne⟩⟩
theorem ok_lInit (T : Txt K mg A) : FnOk P w K mg base CX0 1 A.f_lInit A.d_lInit ["self"] (spLInit A) := by
  refine T.F_lInit.ok sc_lInit (fun vs H Q E h => ?_) (fun cdv Ar outer s H vs Q E hr h => ⟨_, pss_cons (ps_fld (pv 0) (pe_lst pa_nil) rfl) (pss_cons (ps_fld (pv 0) (pe_lst pa_nil) rfl) (pss_one (ps_fld (pv 0) pe_non rfl))), ?_⟩)
  · obtain ⟨_, _, rfl, _⟩ := h
    rfl
  · obtain ⟨x, dx, rfl, hx, q⟩ := h
    refine ⟨by show 0 ≤ sizeLine; decide, fun pp npp => ?_⟩
    have hxp : x ≠ pp := ne_of_none hx npp
    refine ⟨_, rfl, x, A.cPlan, dx, _, rfl, (by rw [upd_ne hxp]; exact hx), T.clPlan, T.nPlan_pans, (by show 0 < 1000; decide), ?_⟩
    refine ⟨by show 0 ≤ sizeLine; decide, fun dd ndd => ?_⟩
    have hxd : x ≠ dd := ne_of_none upd_same ndd
    have hpd : pp ≠ dd := fun z => by rw [← z, upd_ne (Ne.symm hxp), upd_same] at ndd; cases ndd
    have ndd' : H dd = none := by rw [upd_ne (Ne.symm hxd), upd_ne (Ne.symm hpd)] at ndd; exact ndd
    refine ⟨_, rfl, x, A.cPlan, dx, _, rfl, (by rw [upd_ne hxd]; exact upd_same), T.clPlan, T.nPlan_days, Nat.lt_of_le_of_lt (pl1 pl0) (by decide), ?_⟩
    refine st_fld val_c (val_var rfl) upd_same T.clPlan T.nPlan_sea (Nat.lt_of_le_of_lt (pl1 (pl1 pl0)) (by decide)) ?_
    rw [upd_upd]
    have e : putF "sea" V.non (putF "days" (.ref dd) (putF "pans" (.ref pp) [])) = lF ⟨x, dx, pp, dd, [], []⟩ {} := by
      have e1 : putF "days" (V.ref dd) (putF "pans" (V.ref pp) []) = ([("pans", .ref pp), ("days", .ref dd)] : List (Str × V)) := put_past (by decide +kernel) rfl
      rw [e1]
      exact put_past (by decide +kernel) (put_past (by decide +kernel) rfl)
    rw [e]
    refine q _ pp dd npp ndd' hpd ⟨upd_same, ?_, ?_, rfl, rfl, fun i b p h => by simp at h, fun i b p h => by simp at h⟩ fun b o eb hb => ?_
    · rw [upd_ne (Ne.symm hxp), upd_ne hpd, upd_ne (Ne.symm hxp)]; exact upd_same
    · rw [upd_ne (Ne.symm hxd)]; exact upd_same
    · have hbx : b ≠ x := by simpa using hb
      rw [upd_ne hbx, upd_ne (ne_of_none eb ndd'), upd_ne hbx, upd_ne (ne_of_none eb npp)]
      exact eb
/-- raise Fault(k) -/
theorem st_fault {σ : L2.St} {H : Hp} {k : Nat} {kz : Int} {E : XK} (hk : kz = (k : Int)) (f : Faults A H k E) : tMkO A.cFault (spXInit A) [] (tCons (tC (.int kz)) tNil) σ H fun cls d H' => E cls d H' := by
  subst hk
  refine ⟨by show 1 ≤ 1000; decide, fun a na => ⟨a, .int (k : Int), rfl, upd_same, fun dx nd ne => ⟨rfl, dx, [(("number" : Str), .int (k : Int))], upd_same, ?_, ?_, ?_⟩⟩⟩
  · rw [upd_ne ne]; exact upd_same
  · rw [upd_ne ne] at nd; exact nd
  · have nd' : H dx = none := by rw [upd_ne ne] at nd; exact nd
    refine f _ dx (fun b o e => ?_) nd' upd_same
    have hba : b ≠ a := ne_of_none e na
    have hbd : b ≠ dx := ne_of_none e nd'
    rw [upd_ne hbd, del_ne hba, upd_ne hba, upd_ne hbd, upd_ne hba]
    exact e
theorem ok_lookLine (T : Txt K mg A) : FnOk P w K mg base (L2.CX P w) 4 A.f_lookLine A.d_lookLine ["plan", "words"] (spLookLine A K) := by
  refine T.F_lookLine.okX sc_lookLine (fun vs H Q E h => ?_) (fun cdv Ar outer s H vs Q E hr h => ⟨_, pss_cons (ps_if (pt_not (pt_val (pe_callB (cr_all rfl) (by rfl) T.ball (by decide +kernel) (pa_cons
      (pe_lc (own := [("word", 2)]) (g := gName 2) (tt := tYes) (te := tOrV (tCall (spIsName K) [] E0 (tCons (tVar 2) tNil)) (tCall (spIsNumber K) [] E0 (tCons (tVar 2) tNil))) rfl sc_lookLine.nd (pi_list (pv 1)) (blkOk_by (N := ["plan", "words", "word"]) (sc := defScope s_lookLine) (by decide +kernel)) (fun _ _ _ _ _ => pg_name (i := 2) sc_lookLine.nd rfl (Or.inl rfl)) (fun _ _ _ _ _ => pts_nil)
        (fun _ _ _ _ _ => pe_or (pe_call (ok_isName T) (hr.mono (by decide)) rfl T.g_isName T.F_isName.kp T.b_isName .nil pass0 (pa_cons (pv 2) pa_nil)) (pe_one (pe_call (ok_isNumber T) (hr.mono (by decide)) rfl T.g_isNumber T.F_isNumber.kp T.b_isNumber .nil pass0 (pa_cons (pv 2) pa_nil))))) pa_nil))))
      (pss_one (ps_raise rfl (takes_of rfl rfl rfl rfl) (pmk_oex T.oFault T.iFault T.tFault (ok_xInit T) (hr.mono (by decide)) T.b_xInit .nil pass0 rfl T.gFault (pa_cons pe_int pa_nil)))) pss_nil)
    (pss_cons (ps_if (pt_not (pt_val (pe_call (ok_asTold T) (hr.mono (by decide)) rfl T.g_asTold T.F_asTold.kp T.b_asTold .nil pass0 (pa_cons (pv 1) pa_nil)))) (pss_one (ps_raise rfl (takes_of rfl rfl rfl rfl) (pmk_oex T.oFault T.iFault T.tFault (ok_xInit T) (hr.mono (by decide)) T.b_xInit .nil pass0 rfl T.gFault (pa_cons pe_int pa_nil)))) pss_nil)
    (pss_cons (ps_if (PW.pt (pw_and (pt_cmpR (op_eqD hr.units) (pe_ix ix_list (pv 1) pe_int (fun _ _ => rfl)) (pe_cr rfl T.gSEA) (nomark _)) (pw_and1 (pt_cmpR op_notN1 (pe_fld (pv 0) rfl) pe_non (nomark _))))) (pss_one (ps_raise rfl (takes_of rfl rfl rfl rfl) (pmk_oex T.oFault T.iFault T.tFault (ok_xInit T) (hr.mono (by decide)) T.b_xInit .nil pass0 rfl T.gFault (pa_cons pe_int pa_nil)))) pss_nil)
    (pss_cons (ps_if (pt_val (pe_call (ok_tooMany T) (hr.mono (by decide)) rfl T.g_tooMany T.F_tooMany.kp T.b_tooMany .nil pass0 (pa_cons (pv 0) (pa_cons (pe_ix ix_list (pv 1) pe_int (fun _ _ => rfl)) pa_nil)))) (pss_one (ps_raise rfl (takes_of rfl rfl rfl rfl) (pmk_oex T.oFault T.iFault T.tFault (ok_xInit T) (hr.mono (by decide)) T.b_xInit .nil pass0 rfl T.gFault (pa_cons pe_int pa_nil)))) pss_nil)
    (pss_one (ps_if (pt_not (pt_val (pe_call (ok_inBounds T) (hr.mono (by decide)) rfl T.g_inBounds T.F_inBounds.kp T.b_inBounds .nil pass0 (pa_cons (pe_ix ix_list (pv 1) pe_int (fun _ _ => rfl)) (pa_cons
      (pe_lc (own := [("word", 2)]) (g := gName 2) (tt := tYes) (te := tCall (spWorth K) [] E0 (tCons (tVar 2) tNil)) rfl sc_lookLine.nd (pi_list (pe_slice sl_list (pv 1) (po_some pe_int) po_none)) (blkOk_by (N := ["plan", "words", "word"]) (sc := defScope s_lookLine) (by decide +kernel)) (fun _ _ _ _ _ => pg_name (i := 2) sc_lookLine.nd rfl (Or.inl rfl)) (fun _ _ _ _ _ => pts_nil)
        (fun _ _ _ _ _ => pe_call (ok_worth T) (hr.mono (by decide)) rfl T.g_worth T.F_worth.kp T.b_worth .nil pass0 (pa_cons (pv 2) pa_nil))) pa_nil))))) (pss_one (ps_raise rfl (takes_of rfl rfl rfl rfl) (pmk_oex T.oFault T.iFault T.tFault (ok_xInit T) (hr.mono (by decide)) T.b_xInit .nil pass0 rfl T.gFault (pa_cons pe_int pa_nil)))) pss_nil))))), ?_⟩)
  · obtain ⟨_, _, _, _, _, rfl, _⟩ := h
    rfl
  · obtain ⟨p, W, a, refs, ws, rfl, hp, hw, kF, kN⟩ := h
    have h0 : 0 < ws.length := List.length_pos_iff.mpr hw.hd
    have hlen := hw.rw.len
    have hln := hw.ln
    have hone : ∀ b ∈ refs, ∃ wd, wd ≠ [] ∧ wd.length ≤ 2000 ∧ H b = some (.lst (iv wd)) := fun b hb => by
      obtain ⟨l, hl, e⟩ := hw.rw.mem hb
      exact ⟨l, hw.ne l hl, hw.sm l hl, e⟩
    -- 1: a word that's neither
    have hall : ValS (tCB (rAll K) (tCons (tLc (iList K (tVar 1)) (gName 2) tYes (tOrV (tCall (spIsName K) [] E0 (tCons (tVar 2) tNil)) (tCall (spIsNumber K) [] E0 (tCons (tVar 2) tNil))) [2]) tNil)) (start ["plan", "words", "word"] [.ref p.pl, .ref a]) H (.bl (goodWords ws)) := by
      refine vs_to (vs_all (byHeap H (fun l => isName l || isNumber l) false) (val_var rfl) (SqL.of hw.sq) (by rw [List.length_map]; omega) fun x hx H' s' => ?_) ?_
      · obtain ⟨b, hb, rfl⟩ := List.mem_map.mp hx
        obtain ⟨wd, hne, hsm, e⟩ := hone b hb
        rw [byHeap_at e]
        exact vs_or (vs_isName (val_var rfl) (SqL.of (s' _ _ e)) hsm) fun _ H2 s2 => vs_isNumber (val_var rfl) (SqL.of (s2 _ _ (s' _ _ e))) hsm hne
      · refine congrArg V.bl ?_
        have e := hw.rw.byHeap (g := fun l => isName l || isNumber l) (z := false)
        have e3 : ∀ {α : Type} (f : α → Bool) (l : List α), l.all f = (l.map f).all id := fun f l => by rw [List.all_map]; rfl
        unfold goodWords
        rw [e3 (byHeap H (fun l => isName l || isNumber l) false), e, e3 (fun l => isName l || isNumber l)]
    refine ss_if (as_not (as_val hall)) (fun e H1 s1 => ?_) (fun e H1 s1 => ?_)
    · have hg : goodWords ws = false := by cases hh : goodWords ws <;> simp [hh] at e ⊢
      have hf : fault W ws = some 1 := if_pos hg
      exact st_fault rfl ((kF 1 hf).same s1)
    have hg : ¬ goodWords ws = false := by cases hh : goodWords ws <;> simp [hh] at e ⊢
    refine st_next ?_
    dsimp only
    -- 2: it isn't as told
    have hw1 := hw.same s1
    have htold : ValS (tCall (spAsTold K) [] E0 (tCons (tVar 1) tNil)) (start ["plan", "words", "word"] [.ref p.pl, .ref a]) H1 (.bl (asTold ws)) := fun Q q => ⟨_, rfl, a, refs, ws, rfl, hw1, q⟩
    refine ss_if (as_not (as_val htold)) (fun e2 H2 s2 => ?_) (fun e2 H2 s2 => ?_)
    · have ht : asTold ws = false := by cases hh : asTold ws <;> simp [hh] at e2 ⊢
      have hf : fault W ws = some 2 := (if_neg hg).trans (if_pos ht)
      exact st_fault rfl ((kF 2 hf).same (s1.trans s2))
    have ht' : asTold ws = true := by cases hh : asTold ws <;> simp [hh] at e2 ⊢
    have ht : ¬ asTold ws = false := by rw [ht']; simp
    refine st_next ?_
    dsimp only
    -- 4: sea was told already
    have s02 := s1.trans s2
    have hw2 := hw.same s02
    have hp2 := hp.keep fun b _ o e => s02 b o e
    have hw0 : ∀ H', Same H H' → ∃ b, Val (tOp (rIxL K) (tVar 1) (tC (.int 0))) (start ["plan", "words", "word"] [.ref p.pl, .ref a]) H' (.ref b) ∧ H' b = some (.lst (iv (w0 ws))) := fun H' s' => (hw.same s').at_ (K := K) (i := 0) (σ := start ["plan", "words", "word"] [.ref p.pl, .ref a]) h0 (val_var (i := 1) rfl) val_c
    obtain ⟨b2, v2, hb2⟩ := hw0 H2 s02
    refine ss_if (as_and (as_of (ans_eqL (m := kSEA) v2 val_c (SqL.of hb2) (T.lSEA.sq H2))) fun _ H' s' => as_of (ans_notN (b := W.sea.isSome) (val_fld (val_var rfl) (hp2.keep fun b _ o e => s' b o e).obj T.clPlan T.nPlan_sea (lF_sea _ _)) ?_)) (fun e3 H3 s3 => ?_) (fun e3 H3 s3 => ?_)
    · cases W.sea <;> rfl
    · rw [Bool.and_eq_true, decide_eq_true_iff] at e3
      have hf : fault W ws = some 4 := (if_neg hg).trans ((if_neg ht).trans (if_pos e3))
      exact st_fault rfl ((kF 4 hf).same (s02.trans s3))
    have hs4 : ¬ (w0 ws = kSEA ∧ W.sea.isSome = true) := by
      rw [Bool.and_eq_false_iff, decide_eq_false_iff_not] at e3
      rintro ⟨z1, z2⟩
      rcases e3 with y | y
      · exact y z1
      · rw [z2] at y; cases y
    refine st_next ?_
    dsimp only
    -- 6: too many
    have s03 := s02.trans s3
    have hp3 := hp.keep fun b _ o e => s03 b o e
    obtain ⟨b3, v3, hb3⟩ := hw0 H3 s03
    have hmany : Val (tCall (spTooMany A K) [] E0 (tCons (tVar 0) (tCons (tOp (rIxL K) (tVar 1) (tC (.int 0))) tNil))) (start ["plan", "words", "word"] [.ref p.pl, .ref a]) H3 (.bl (tooMany W (w0 ws))) := fun Q q => ⟨_, rfl, v3 _ ⟨p, W, b3, w0 ws, rfl, hp3, SqL.of hb3, q⟩⟩
    refine st_if (ans_val hmany) (fun e4 => ?_) (fun e4 => ?_)
    · have hf : fault W ws = some 6 := (if_neg hg).trans ((if_neg ht).trans ((if_neg hs4).trans (if_pos e4)))
      exact st_fault rfl ((kF 6 hf).same s03)
    have hm6 : ¬ tooMany W (w0 ws) = true := by rw [e4]; simp
    refine st_next ?_
    dsimp only
    -- 5: out of its bounds
    obtain ⟨hdig, hl1, hl2⟩ := asTold_nums ht'
    have hbound : ValS (tCall (spInBounds K) [] E0 (tCons (tOp (rIxL K) (tVar 1) (tC (.int 0))) (tCons (tLc (iList K (tSl (rSlL K) (tVar 1) (tPart (tC (.int 1))) tNoPart)) (gName 2) tYes (tCall (spWorth K) [] E0 (tCons (tVar 2) tNil)) [2]) tNil))) (start ["plan", "words", "word"] [.ref p.pl, .ref a]) H3 (.bl (inBounds (w0 ws) (numsOf ws))) := fun Q q => by
      refine v3 _ (nums_made (hw.same s03) rfl (by show 2 < 3; decide) hdig fun D H' nD s' d => ?_)
      refine ⟨b3, D, w0 ws, numsOf ws, rfl, SqL.of (s' _ _ hb3), SqL.of d, ?_, ?_, q H' s'⟩
      · unfold numsOf; rw [List.length_map]; exact hl1
      · unfold numsOf; rw [List.length_map]; exact hl2
    refine ss_if (as_not (as_val hbound)) (fun e5 H5 s5 => ?_) (fun e5 H5 s5 => ?_)
    · have hb : inBounds (w0 ws) (numsOf ws) = false := by cases hh : inBounds (w0 ws) (numsOf ws) <;> simp [hh] at e5 ⊢
      have hf : fault W ws = some 5 := (if_neg hg).trans ((if_neg ht).trans ((if_neg hs4).trans ((if_neg hm6).trans (if_pos hb))))
      exact st_fault rfl ((kF 5 hf).same (s03.trans s5))
    · have hb : ¬ inBounds (w0 ws) (numsOf ws) = false := by cases hh : inBounds (w0 ws) (numsOf ws) <;> simp [hh] at e5 ⊢
      have hf : fault W ws = none := (if_neg hg).trans ((if_neg ht).trans ((if_neg hs4).trans ((if_neg hm6).trans (if_neg hb))))
      exact kN hf H5 (s03.trans s5)
end
end Sal
namespace Sal
open PySem PySem.Spec PyProof.Rows L2
open Mu17 (Works Pan Day)
def PlA.core (p : PlA) : List Addr := [p.pl, p.pp, p.dd]
def spTakeLine (A : Ad) (K : PySem.W.Frag) : Sp := fun vs H Q E => ∃ (p : PlA) (W : Works) (a : Addr) (refs : List Addr) (ws : List (List Nat)), vs = [.ref p.pl, .ref a] ∧ PlanAt A.cPlan H p W ∧ p.pp ≠ p.dd ∧ WOk W ∧ WordsAt K H a refs ws ∧
  (∀ k, fault W ws = some k → Faults A H k E) ∧
  (fault W ws = none → ∀ H' p', PlanAt A.cPlan H' p' (took W ws) → p'.core = p.core → (∀ b ∈ p'.foot, b ∈ p.foot ∨ H b = none) → Keeps p.core H H' → Q .non H')
theorem lput_sea (p : PlA) (W : Works) {n : Nat} : putF "sea" (.int (n : Int)) (lF p W) = lF p { W with sea := some n } := put_past (by decide +kernel) (put_past (by decide +kernel) put_here)
section
variable {C : Addr} {H : Hp} {p : PlA} {W : Works} {t : Addr} {x y : Nat}
theorem PlanAt.addPan (h : PlanAt C H p W) (hpd : p.pp ≠ p.dd) (nt : H t = none) : PlanAt C (upd (upd H t (.tup [.int (x : Int), .int (y : Int)])) p.pp (.lst (p.ps.map V.ref ++ [.ref t]))) { p with ps := p.ps ++ [t] } { W with pans := W.pans ++ [⟨x, y⟩] } := by
  have k : ∀ b o, b ≠ p.pp → H b = some o → (upd (upd H t (.tup [.int (x : Int), .int (y : Int)])) p.pp (.lst (p.ps.map V.ref ++ [.ref t]))) b = some o := fun b o hb e => by rw [upd_ne hb, upd_ne (ne_of_none e nt)]; exact e
  refine ⟨k _ _ (ne_of h.obj h.lp fun z => by cases z) h.obj, ?_, k _ _ (Ne.symm hpd) h.ld, ?_, h.nd, fun i b q h1 h2 => ?_, fun i b q h1 h2 => ?_⟩
  · show (upd _ p.pp _) p.pp = _
    rw [upd_same, List.map_append]; rfl
  · show (p.ps ++ [t]).length = (W.pans ++ [_]).length
    rw [List.length_append, List.length_append, h.np]; rfl
  · have h1' : (p.ps ++ [t])[i]? = some b := h1
    have h2' : (W.pans ++ [(⟨x, y⟩ : Pan)])[i]? = some q := h2
    by_cases hi : i < p.ps.length
    · rw [List.getElem?_append_left hi] at h1'
      rw [List.getElem?_append_left (by rw [← h.np]; exact hi)] at h2'
      have e := h.tp i b q h1' h2'
      exact k b _ (ne_of e h.lp fun z => by cases z) e
    · rw [List.getElem?_append_right (by omega)] at h1'
      rw [List.getElem?_append_right (by rw [← h.np]; omega), ← h.np] at h2'
      generalize i - p.ps.length = j at h1' h2'
      cases j with
      | zero =>
        cases Option.some.inj h1'
        cases Option.some.inj h2'
        rw [upd_ne (Ne.symm (ne_of_none h.lp nt))]
        exact upd_same
      | succ j => simp at h1'
  · have e := h.td i b q h1 h2
    exact k b _ (ne_of e h.lp fun z => by cases z) e
theorem PlanAt.addDay (h : PlanAt C H p W) (hpd : p.pp ≠ p.dd) (nt : H t = none) : PlanAt C (upd (upd H t (.tup [.int (x : Int), .int (y : Int)])) p.dd (.lst (p.ds.map V.ref ++ [.ref t]))) { p with ds := p.ds ++ [t] } { W with days := W.days ++ [⟨x, y⟩] } := by
  have k : ∀ b o, b ≠ p.dd → H b = some o → (upd (upd H t (.tup [.int (x : Int), .int (y : Int)])) p.dd (.lst (p.ds.map V.ref ++ [.ref t]))) b = some o := fun b o hb e => by rw [upd_ne hb, upd_ne (ne_of_none e nt)]; exact e
  refine ⟨k _ _ (ne_of h.obj h.ld fun z => by cases z) h.obj, k _ _ hpd h.lp, ?_, h.np, ?_, fun i b q h1 h2 => ?_, fun i b q h1 h2 => ?_⟩
  · show (upd _ p.dd _) p.dd = _
    rw [upd_same, List.map_append]; rfl
  · show (p.ds ++ [t]).length = (W.days ++ [_]).length
    rw [List.length_append, List.length_append, h.nd]; rfl
  · have e := h.tp i b q h1 h2
    exact k b _ (ne_of e h.ld fun z => by cases z) e
  · have h1' : (p.ds ++ [t])[i]? = some b := h1
    have h2' : (W.days ++ [(⟨x, y⟩ : Day)])[i]? = some q := h2
    by_cases hi : i < p.ds.length
    · rw [List.getElem?_append_left hi] at h1'
      rw [List.getElem?_append_left (by rw [← h.nd]; exact hi)] at h2'
      have e := h.td i b q h1' h2'
      exact k b _ (ne_of e h.ld fun z => by cases z) e
    · rw [List.getElem?_append_right (by omega)] at h1'
      rw [List.getElem?_append_right (by rw [← h.nd]; omega), ← h.nd] at h2'
      generalize i - p.ds.length = j at h1' h2'
      cases j with
      | zero =>
        cases Option.some.inj h1'
        cases Option.some.inj h2'
        rw [upd_ne (Ne.symm (ne_of_none h.ld nt))]
        exact upd_same
      | succ j => simp at h1'
theorem PlanAt.setSea {n : Nat} (h : PlanAt C H p W) : PlanAt C (upd H p.pl (.ins C p.dp (lF p { W with sea := some n }))) p { W with sea := some n } := by
  have k : ∀ b o, b ≠ p.pl → H b = some o → (upd H p.pl (.ins C p.dp (lF p { W with sea := some n }))) b = some o := fun b o hb e => by rw [upd_ne hb]; exact e
  refine ⟨upd_same, k _ _ (ne_of h.lp h.obj fun z => by cases z) h.lp, k _ _ (ne_of h.ld h.obj fun z => by cases z) h.ld, h.np, h.nd, fun i b q h1 h2 => ?_, fun i b q h1 h2 => ?_⟩
  · have e := h.tp i b q h1 h2
    exact k b _ (ne_of e h.obj fun z => by cases z) e
  · have e := h.td i b q h1 h2
    exact k b _ (ne_of e h.obj fun z => by cases z) e
end
section
variable {P : Program} {w : World} {K : PySem.W.Frag} {mg : Str → Option Value} {base : Heap} {A : Ad}
theorem ok_takeLine (T : Txt K mg A) : FnOk P w K mg base (L2.CX P w) 5 A.f_takeLine A.d_takeLine ["plan", "words"] (spTakeLine A K) := by
  refine T.F_takeLine.okX sc_takeLine (fun vs H Q E h => ?_) (fun cdv Ar outer s H vs Q E hr h => ⟨_, pss_cons (ps_expr (pe_call (E := E) (ok_lookLine T) hr rfl T.g_lookLine T.F_lookLine.kp T.b_lookLine .nil (passes_call (takes_of rfl rfl rfl rfl) (fun _ _ _ _ h => h)) (pa_cons (pv 0) (pa_cons (pv 1) pa_nil))))
    (pss_cons (ps_setLc (i := 2) (own := [("word", 3)]) (g := gName 3) (tt := tYes) (te := tCall (spWorth K) [] E0 (tCons (tVar 3) tNil)) rfl sc_takeLine.nd rfl rfl (sw_true rfl rfl rfl (by decide +kernel)) (pi_list (pe_slice sl_list (pv 1) (po_some pe_int) po_none)) (blkOk_by (N := ["plan", "words", "numbers", "word"]) (sc := defScope s_takeLine) (by decide +kernel)) (fun _ _ _ _ _ => pg_name (i := 3) sc_takeLine.nd rfl (Or.inl rfl)) (fun _ _ _ _ _ => pts_nil)
      (fun _ _ _ _ _ => pe_call (ok_worth T) (hr.mono (by decide)) rfl T.g_worth T.F_worth.kp T.b_worth .nil pass0 (pa_cons (pv 3) pa_nil)))
    (pss_one (ps_if (pt_cmpR (op_eqD hr.units) (pe_ix ix_list (pv 1) pe_int (fun _ _ => rfl)) (pe_cr rfl T.gPAN) (nomark _))
      (pss_one (ps_expr (pe_bm PySem.F.plainAttrs_list PySem.F.slot_list_append PySem.F.type_list_append mt_append (pe_fld (pv 0) rfl) (pa_cons (pe_tup (pa_cons (pe_ix ix_list (pv 2) pe_int (fun _ _ => rfl)) (pa_cons (pe_ix ix_list (pv 2) pe_int (fun _ _ => rfl)) pa_nil))) pa_nil))))
      (pss_one (ps_if (pt_cmpR (op_eqD hr.units) (pe_ix ix_list (pv 1) pe_int (fun _ _ => rfl)) (pe_cr rfl T.gDAY) (nomark _))
        (pss_one (ps_expr (pe_bm PySem.F.plainAttrs_list PySem.F.slot_list_append PySem.F.type_list_append mt_append (pe_fld (pv 0) rfl) (pa_cons (pe_tup (pa_cons (pe_ix ix_list (pv 2) pe_int (fun _ _ => rfl)) (pa_cons (pe_ix ix_list (pv 2) pe_int (fun _ _ => rfl)) pa_nil))) pa_nil))))
        (pss_one (ps_fld (pv 0) (pe_ix ix_list (pv 2) pe_int (fun _ _ => rfl)) rfl))))))), ?_⟩)
  · obtain ⟨_, _, _, _, _, rfl, _⟩ := h
    rfl
  · obtain ⟨p, W, a, refs, ws, rfl, hp, hpd, ok, hw, kF, kN⟩ := h
    refine ⟨_, rfl, _, rfl, p, W, a, refs, ws, rfl, hp, hw, kF, fun hf H1 s1 => ?_⟩
    have kN := kN hf
    have ht : asTold ws = true := by
      unfold fault at hf
      split at hf
      · cases hf
      · split at hf
        · cases hf
        · rename_i h2
          cases hh : asTold ws
          · exact absurd hh h2
          · rfl
    obtain ⟨hdig, hl1, hl2⟩ := asTold_nums ht
    have okT := ok.took hf
    have h0 : 0 < ws.length := List.length_pos_iff.mpr hw.hd
    -- numbers
    dsimp only
    refine st_nums (hw.same s1) rfl (by show 3 < 4; decide) hdig fun D H2 nD s2 d2 => ?_
    have s02 := s1.trans s2
    have hp2 := hp.keep fun b _ o e => s02 b o e
    obtain ⟨b0, v0, hb0⟩ := (hw.same s02).at_ (K := K) (i := 0) (σ := [some (.ref p.pl), some (.ref a), some (.ref D), none]) h0 (val_var (i := 1) rfl) val_c
    have hb0' : H2 b0 = some (.lst (iv (w0 ws))) := hb0
    have hnl : (numsOf ws).length = (ws.drop 1).length := by unfold numsOf; rw [List.length_map]
    have hat : ∀ (i : Nat) (iz : Int), iz = (i : Int) → i < (numsOf ws).length → Val (tOp (rIxL K) (tVar 2) (tC (.int iz))) [some (.ref p.pl), some (.ref a), some (.ref D), none] H2 (.int (((numsOf ws).getD i 0 : Nat) : Int)) := fun i iz hz hi => by
      subst hz
      exact val_ixL (val_var (i := 2) rfl) val_c (SqL.of d2) (iv_getD hi)
    have k02 : Keeps p.core H H2 := Keeps.of_same s02
    refine st_if (ans_eqL (m := kPAN) v0 val_c (SqL.of hb0') (T.lPAN.sq H2)) (fun e => ?_) (fun e => ?_)
    · have hc := of_decide_eq_true e
      have hl := hl2 (.inl hc)
      have htk : took W ws = { W with pans := W.pans ++ [⟨(numsOf ws).getD 0 0, (numsOf ws).getD 1 0⟩] } := if_pos hc
      rw [htk] at kN
      have hnp := ok.np
      refine ⟨_, rfl, p.pl, A.cPlan, p.dp, _, _, rfl, hp2.obj, T.clPlan, T.nPlan_pans, lF_pans _ _, .inl ⟨rfl, _, SqL.of hp2.lp⟩, ?_⟩
      refine hat 0 0 rfl (by omega) _ ?_
      refine hat 1 1 rfl (by omega) _ ?_
      refine ⟨by show 2 ≤ sizeLine; decide, fun t nt => ?_⟩
      refine ⟨p.pp, _, _, rfl, rfl, (by rw [upd_ne (ne_of_none hp2.lp nt)]; exact hp2.lp), ?_, ?_⟩
      · rw [List.length_map, hp.np]
        exact Nat.lt_of_le_of_lt hnp (by decide)
      · refine kN _ _ (hp2.addPan hpd nt) rfl (fun b hb => ?_) (k02.trans ((Keeps.new nt).trans (Keeps.upd (by simp [PlA.core]))))
        have hb' : b ∈ p.pl :: p.pp :: p.dd :: (p.ps ++ [t] ++ p.ds) := hb
        simp at hb'
        rcases hb' with h | h | h | h | h | h
        · exact .inl (by simp [PlA.foot, h])
        · exact .inl (by simp [PlA.foot, h])
        · exact .inl (by simp [PlA.foot, h])
        · exact .inl (by simp [PlA.foot, h])
        · exact .inr (by rw [h]; exact s02.free nt)
        · exact .inl (by simp [PlA.foot, h])
    · have hc := of_decide_eq_false e
      refine st_if (ans_eqL (m := kDAY) v0 val_c (SqL.of hb0') (T.lDAY.sq H2)) (fun e' => ?_) (fun e' => ?_)
      · have hc' := of_decide_eq_true e'
        have hl := hl2 (.inr hc')
        have htk : took W ws = { W with days := W.days ++ [⟨(numsOf ws).getD 0 0, (numsOf ws).getD 1 0⟩] } := (if_neg hc).trans (if_pos hc')
        rw [htk] at kN
        have hnd := ok.nd
        refine ⟨_, rfl, p.pl, A.cPlan, p.dp, _, _, rfl, hp2.obj, T.clPlan, T.nPlan_days, lF_days _ _, .inl ⟨rfl, _, SqL.of hp2.ld⟩, ?_⟩
        refine hat 0 0 rfl (by omega) _ ?_
        refine hat 1 1 rfl (by omega) _ ?_
        refine ⟨by show 2 ≤ sizeLine; decide, fun t nt => ?_⟩
        refine ⟨p.dd, _, _, rfl, rfl, (by rw [upd_ne (ne_of_none hp2.ld nt)]; exact hp2.ld), ?_, ?_⟩
        · rw [List.length_map, hp.nd]
          exact Nat.lt_of_le_of_lt hnd (by decide)
        · refine kN _ _ (hp2.addDay hpd nt) rfl (fun b hb => ?_) (k02.trans ((Keeps.new nt).trans (Keeps.upd (by simp [PlA.core]))))
          have hb' : b ∈ p.pl :: p.pp :: p.dd :: (p.ps ++ (p.ds ++ [t])) := hb
          simp at hb'
          rcases hb' with h | h | h | h | h | h
          · exact .inl (by simp [PlA.foot, h])
          · exact .inl (by simp [PlA.foot, h])
          · exact .inl (by simp [PlA.foot, h])
          · exact .inl (by simp [PlA.foot, h])
          · exact .inl (by simp [PlA.foot, h])
          · exact .inr (by rw [h]; exact s02.free nt)
      · have hc' := of_decide_eq_false e'
        have htk : took W ws = { W with sea := some ((numsOf ws).getD 0 0) } := (if_neg hc).trans (if_neg hc')
        rw [htk] at kN
        refine st_fld (hat 0 0 rfl (by omega)) (val_var rfl) hp2.obj T.clPlan T.nPlan_sea (by show 3 < 1000; decide) ?_
        rw [lput_sea]
        exact kN _ p hp2.setSea rfl (fun b hb => .inl hb) (k02.trans (Keeps.upd (by simp [PlA.core])))
end
end Sal
namespace Sal
open PySem PySem.Spec PyProof.Rows L2
open Mu17 (Works Pan Day)
/-- for i, x in enumerate(list): each turn's pair is a new tuple -/
theorem for_enum {K : PySem.W.Frag} {a : Addr} {xs : List V} {g : TG} {tb : TS} {D : Ends} {σ : L2.St} {H : Hp} (Pv : Nat → L2.St → Hp → Prop) (h0 : Pv 0 σ H) (hl : ∀ i σ H, Pv i σ H → SqL K H a xs)
    (hs : ∀ i x t σ H, xs[i]? = some x → Pv i σ H → H t = none → g (.ref t) σ (upd H t (.tup [.int ((i : Nat) : Int), x])) fun σ2 H2 => tb { D with nx := Pv (i + 1), ct := Pv (i + 1), bk := D.nx } σ2 H2)
    (hd : ∀ σ H, Pv xs.length σ H → D.nx σ H) :
    ∃ W : Nat → Nat → L2.St → Hp → Prop, (∃ m, W 0 m σ H) ∧ ∀ i m σ H, W i m σ H → ((Ite K a).stop i H ∧ D.nx σ H) ∨
      ((Ite K a).go i H ∧ ∃ N : L2.St → Hp → Prop, (∀ σ' H', N σ' H' → ∃ m', m' < m ∧ W (i + 1) m' σ' H') ∧ ∀ x H', (Ite K a).yld i H x H' → g x σ H' fun σ2 H2 => tb { D with nx := N, ct := N, bk := D.nx } σ2 H2) := by
  refine ⟨fun i m σ H => i + m = xs.length ∧ Pv i σ H, ⟨xs.length, Nat.zero_add _, h0⟩, fun i m σ H ⟨e, p⟩ => ?_⟩
  have q := hl i σ H p
  cases m with
  | zero =>
    have ei : i = xs.length := e
    subst ei
    exact .inl ⟨⟨xs, q, Nat.le_refl _⟩, hd σ H p⟩
  | succ m =>
    have hlt : i < xs.length := by omega
    refine .inr ⟨⟨xs, xs[i], q, List.getElem?_eq_getElem hlt⟩, Pv (i + 1), fun σ' H' p' => ⟨m, Nat.lt_succ_self m, by omega, p'⟩, fun x H' y => ?_⟩
    obtain ⟨t, z, rfl, nt, rfl, hz⟩ := y
    exact hs i z t σ H (hz xs q) p nt
def spRead (A : Ad) (K : PySem.W.Frag) : Sp := fun vs H Q _ => ∃ (a : Addr) (t : List Nat), vs = [.ref a] ∧ SqL K H a (iv t) ∧ t.length ≤ 2000 ∧
  (∀ x, Mu17.read t = .error x → ∀ H' r l, Same H H' → H' r = some (.tup [.non, .ref l]) → H' l = some (.lst [.int (x.1 : Int), .int (x.2 : Int)]) → Q (.ref r) H') ∧
  (∀ W, Mu17.read t = .ok W → WOk W → W.pans ≠ [] → W.days ≠ [] → W.sea.isSome = true → ∀ H' r p l, Same H H' → H' r = some (.tup [.ref p.pl, .ref l]) → PlanAt A.cPlan H' p W → (∀ b ∈ p.foot, H b = none) → Q (.ref r) H')
def t_fault (A : Ad) : Addr → Value → Option Addr → TS := fun a cls d => tRet (tTup (tCons (tC .non) (tCons (tLst (tCons (tOp (rI0 fun i j => .int (i + j)) (tVar 2) (tC (.int 1))) (tCons (tXf a cls d A.cFault "number" (tVar 5)) tNil))) tNil)))
def t_taking (A : Ad) (K : PySem.W.Frag) : WX → TS := fun W => tDrop (tCallS (spTakeLine A K) (WE W) (tCons (tVar 1) (tCons (tVar 4) tNil)))
theorem lines_len : ∀ (t : List Nat), (Mu17.lines t).length ≤ t.length + 1 ∧ ∀ l ∈ Mu17.lines t, l.length ≤ t.length := fun t => by
  rw [← spl_lines]
  exact spl_len 10 t
theorem wordsOf_facts {l : List Nat} : (∀ wd ∈ wordsOf l, wd ≠ []) ∧ (∀ wd ∈ wordsOf l, wd.length ≤ l.length) ∧ (wordsOf l).length ≤ l.length + 1 := by
  unfold wordsOf
  split
  · exact ⟨by simp, by simp, by simp⟩
  · have h := spl_len 32 l
    refine ⟨fun wd hw => words_ne hw, fun wd hw => h.2 wd (List.mem_filter.mp hw).1, ?_⟩
    exact Nat.le_trans (List.length_filter_le _ _) h.1
theorem line_step {W : Works} {n : Nat} {l : List Nat} {r : List (List Nat)} : Mu17.readFrom W n (l :: r) = if wordsOf l = [] then Mu17.readFrom W (n + 1) r else match fault W (wordsOf l) with
    | some k => .error (n, k)
    | none => Mu17.readFrom (took W (wordsOf l)) (n + 1) r := by
  rw [line_law]
  unfold wordsOf
  by_cases h : l.head? = some 35
  · rw [if_pos (.inl h), if_pos h, if_pos rfl]
  · rw [if_neg h]
    by_cases hw : words l = []
    · rw [if_pos (.inr hw), if_pos hw]
    · rw [if_neg hw, if_neg (fun z => z.elim h hw)]
      all_goals (cases fault W (words l) <;> rfl)
theorem tup_dp {K : PySem.W.Frag} {H : Hp} {r : List Addr} {ps : List (Nat × Nat)} (hl : r.length = ps.length) (h : ∀ (i : Nat) (b : Addr) (q : Nat × Nat), r[i]? = some b → ps[i]? = some q → H b = some (.tup [.int (q.1 : Int), .int (q.2 : Int)])) :
    DpAll K H (r.map V.ref) (ps.map fun q => PyData.tuple [.int (q.1 : Int), .int (q.2 : Int)]) := by
  induction r generalizing ps with
  | nil =>
    cases ps with
    | nil => exact .nil
    | cons _ _ => cases hl
  | cons b r ih =>
    cases ps with
    | nil => cases hl
    | cons q ps =>
      exact .cons (.tup (SqT.of (h 0 b q rfl rfl)) (.cons (.int _) (.cons (.int _) .nil))) (ih (by simpa using hl) fun i b' q' h1 h2 => h (i + 1) b' q' h1 h2)
theorem tup_flat {d : PyData} {ps : List (Nat × Nat)} (h : d ∈ ps.map fun q => PyData.tuple [.int (q.1 : Int), .int (q.2 : Int)]) : PyData.canLay0 d = true ∧ PyData.depth d ≤ 10 := by
  obtain ⟨q, _, rfl⟩ := List.mem_map.mp h
  simp [PyData.canLay0, PyData.canLayAll0, PyData.depth, PyData.depthAll]
theorem PlanAt.noPans {K : PySem.W.Frag} {C : Addr} {H : Hp} {p : PlA} {W : Works} {σ : L2.St} {te : TE} (h : PlanAt C H p W) (hv : Val te σ H (.ref p.pp)) : AnsS (tTest (tOp (rEqD K) te (tLst tNil))) σ H W.pans.isEmpty := by
  have q := as_eqNil (K := K) (ds := (W.pans.map fun q => (q.area, q.holds)).map fun q => PyData.tuple [.int (q.1 : Int), .int (q.2 : Int)]) hv (SqL.of h.lp) (fun H' s => tup_dp (by rw [List.length_map]; exact h.np) fun i b q h1 h2 => by
    rw [List.getElem?_map] at h2
    cases e : W.pans[i]? with
    | none => rw [e] at h2; cases h2
    | some x =>
      rw [e] at h2
      cases Option.some.inj h2
      exact s _ _ (h.tp i b x h1 e)) fun d hd => tup_flat hd
  refine as_to q ?_
  cases W.pans <;> rfl
theorem PlanAt.noDays {K : PySem.W.Frag} {C : Addr} {H : Hp} {p : PlA} {W : Works} {σ : L2.St} {te : TE} (h : PlanAt C H p W) (hv : Val te σ H (.ref p.dd)) : AnsS (tTest (tOp (rEqD K) te (tLst tNil))) σ H W.days.isEmpty := by
  have q := as_eqNil (K := K) (ds := (W.days.map fun q => (q.sun, q.rain)).map fun q => PyData.tuple [.int (q.1 : Int), .int (q.2 : Int)]) hv (SqL.of h.ld) (fun H' s => tup_dp (by rw [List.length_map]; exact h.nd) fun i b q h1 h2 => by
    rw [List.getElem?_map] at h2
    cases e : W.days[i]? with
    | none => rw [e] at h2; cases h2
    | some x =>
      rw [e] at h2
      cases Option.some.inj h2
      exact s _ _ (h.td i b x h1 e)) fun d hd => tup_flat hd
  refine as_to q ?_
  cases W.days <;> rfl
section
variable {P : Program} {w : World} {K : PySem.W.Frag} {mg : Str → Option Value} {base : Heap} {A : Ad}
theorem ok_read (T : Txt K mg A) : FnOk P w K mg base CX0 6 A.f_read A.d_read ["text"] (spRead A K) := by
  refine T.F_read.ok sc_read (fun vs H Q E h => ?_) (fun cdv Ar outer s H vs Q E hr h => ⟨_, pss_cons (ps_set (i := 1) sc_read.nd rfl (Or.inl rfl) (pe_make0 T.mkPlan (ok_lInit T) (hr.mono (by decide)) rfl T.gPlan T.b_lInit .nil pass0))
    (pss_cons (ps_for PassesOwn.never rfl (pi_enum (by rfl) T.benumerate (pa_cons (pe_call (ok_lines T) (hr.mono (by decide)) rfl T.g_lines T.F_lines.kp T.b_lines .nil pass0 (pa_cons (pv 0) pa_nil)) pa_nil))
        (pg_tup rfl (pgs_cons (pg_name (i := 2) sc_read.nd rfl (Or.inl rfl)) (pgs_cons (pg_name (i := 3) sc_read.nd rfl (Or.inl rfl)) pgs_nil)))
      (pss_cons (ps_set (i := 4) sc_read.nd rfl (Or.inl rfl) (pe_call (ok_words T) (hr.mono (by decide)) rfl T.g_words T.F_words.kp T.b_words .nil pass0 (pa_cons (pv 3) pa_nil)))
      (pss_one (ps_if (pt_cmpR (op_neD hr.units) (pv 4) (pe_lst pa_nil) (nomark _))
        (pss_one (ps_try_as (i := 5) (tb := t_taking A K) (ts := t_fault A) (Wout := fun _ _ _ _ => False) rfl rfl sc_read.nd rfl rfl ⟨rfl, by decide, Or.inl T.gFault⟩ takes0
          (fun W pn xe tk _ => pss_one (ps_expr (by exact (pe_callS (ok_takeLine T) hr rfl T.g_takeLine T.F_takeLine.kp T.b_takeLine (fun σ => passAt tk σ) (by exact (pa_cons (pv 1) (pa_cons (pv 4) pa_nil)))))))
          (fun a oe cls d pn hz hf => pss_one (ps_ret (by exact (pe_tup (pa_cons pe_non (pa_cons (pe_lst (pa_cons (pe_op op_add (pv 2) pe_int) (pa_cons (pe_xf T.xFault T.nFault_number hz hf (pv 5)) pa_nil))) pa_nil)))))))) pss_nil))))
    (pss_cons (ps_if (PW.pt (pw_or (pt_cmpR (op_eqD hr.units) (pe_fld (pv 1) rfl) (pe_lst pa_nil) (nomark _)) (pw_or (pt_cmpR (op_eqD hr.units) (pe_fld (pv 1) rfl) (pe_lst pa_nil) (nomark _)) (pw_or1 (pt_cmpR op_isN1 (pe_fld (pv 1) rfl) pe_non (nomark _)))))) (pss_one (ps_ret (pe_tup (pa_cons pe_non (pa_cons (pe_lst (pa_cons pe_int (pa_cons pe_int pa_nil))) pa_nil))))) pss_nil)
    (pss_one (ps_ret (pe_tup (pa_cons (pv 1) (pa_cons (pe_lst pa_nil) pa_nil))))))), ?_⟩)
  · obtain ⟨_, _, rfl, _⟩ := h
    rfl
  · obtain ⟨a, t, rfl, hS, hl, kE, kO⟩ := h
    -- plan = Plan()
    intro x dx nx ndx nex
    have s0 : Same H (upd (upd H dx (.own x)) x (.ins A.cPlan dx [])) := ((Keeps.new (S := []) ndx).trans (Keeps.new (by rw [upd_ne (Ne.symm nex)]; exact nx))).same
    refine ⟨x, dx, rfl, upd_same, fun H1 pp dd npp ndd hpd hp0 k1 => ⟨rfl, ?_⟩⟩
    have s1 : Same H H1 := fun b o e => k1 b o (s0 b o e) (by simpa using ne_of_none e nx)
    have nc : ∀ b ∈ ([x, pp, dd] : List Addr), H b = none := by
      intro b hb
      rw [List.mem_cons, List.mem_cons, List.mem_singleton] at hb
      rcases hb with rfl | rfl | rfl
      · exact nx
      · exact s0.free npp
      · exact s0.free ndd
    -- lines_of(text)
    refine ⟨_, rfl, a, t, rfl, s1.seq hS, hl, fun H2 fa refs S => ⟨fa, _, rfl, SqL.of S.fl, ?_⟩⟩
    have c1 : ∀ b ∈ ([x, pp, dd] : List Addr), ∃ o, H1 b = some o := by
      intro b hb
      rw [List.mem_cons, List.mem_cons, List.mem_singleton] at hb
      rcases hb with rfl | rfl | rfl
      · exact ⟨_, hp0.obj⟩
      · exact ⟨_, hp0.lp⟩
      · exact ⟨_, hp0.ld⟩
    have hfa : fa ∉ ([x, pp, dd] : List Addr) := fun z => by
      obtain ⟨o, e⟩ := c1 fa z
      rw [S.fn] at e; cases e
    have hrf : ∀ b ∈ refs, b ∉ ([x, pp, dd] : List Addr) := fun b hb z => by
      obtain ⟨o, e⟩ := c1 b z
      rw [S.rn b hb] at e; cases e
    have s02 : Same H H2 := s1.trans S.sm
    have sk : ∀ {H' : Hp}, Keeps [x, pp, dd] H2 H' → Same H H' := fun k b o e => k b o (s02 b o e) fun z => by rw [nc b z] at e; cases e
    have hll := lines_len t
    have hrl := S.rw.len
    refine for_enum (K := K) (a := fa) (xs := refs.map V.ref) (fun i σ H' => ∃ (v2 v3 v4 : Option V) (p : PlA) (W : Works), σ = [some (.ref a), some (.ref x), v2, v3, v4, none] ∧ PlanAt A.cPlan H' p W ∧ p.core = [x, pp, dd] ∧ WOk W ∧ (∀ b ∈ p.foot, H b = none) ∧ Keeps [x, pp, dd] H2 H' ∧ Mu17.readFrom W (i + 1) ((Mu17.lines t).drop i) = Mu17.read t)
      ⟨none, none, none, _, _, rfl, hp0.keep fun b _ o e => S.sm b o e, rfl, WOk.empty, nc, Keeps.refl, rfl⟩ (fun i σ H' ⟨_, _, _, _, _, _, _, _, _, _, k, _⟩ => SqL.of (k _ _ S.fl hfa)) ?_ ?_
    · rintro i y t0 σ H3 hy ⟨v2, v3, v4, p, W, rfl, hp, hc, ok, hft, k3, eq⟩ nt
      obtain ⟨b, hb, rfl⟩ : ∃ b, refs[i]? = some b ∧ y = V.ref b := by
        rw [List.getElem?_map] at hy
        cases e : refs[i]? with
        | none => rw [e] at hy; cases hy
        | some b => rw [e] at hy; exact ⟨b, rfl, (Option.some.inj hy).symm⟩
      have hi : i < (Mu17.lines t).length := by
        have := (List.getElem?_eq_some_iff.mp hb).1
        omega
      obtain ⟨b', h1, h2⟩ := S.rw.get (i := i) (List.getElem?_eq_getElem hi)
      rw [hb] at h1
      cases Option.some.inj h1
      have hdrop := List.drop_eq_getElem_cons hi
      rw [hdrop, line_step] at eq
      have hll2 := hll.2 _ (List.getElem_mem hi)
      generalize (Mu17.lines t)[i] = l at h2 eq hll2
      have hb3 : H3 b = some (.lst (iv l)) := k3 _ _ h2 (hrf b (List.mem_of_getElem? hb))
      have hpl : p.pl = x := (List.cons.inj hc).1
      have hcp : p.pp ≠ p.dd := by
        have e1 : p.pp = pp := (List.cons.inj (List.cons.inj hc).2).1
        have e2 : p.dd = dd := (List.cons.inj (List.cons.inj (List.cons.inj hc).2).2).1
        rw [e1, e2]; exact hpd
      have s34 : Same H3 (upd H3 t0 (.tup [.int ((i : Nat) : Int), .ref b])) := (Keeps.new (S := []) nt).same
      refine ⟨t0, _, rfl, SqT.of upd_same, rfl, _, _, rfl, _, _, rfl, rfl, ?_⟩
      -- words = words_of(line)
      refine st_setC (va_cons (val_var rfl) va_nil) ⟨b, l, rfl, SqL.of (s34 _ _ hb3), by omega, fun H5 wa wr s5 hwa hR => ?_⟩
      dsimp only
      have s35 : Same H3 H5 := s34.trans s5
      obtain ⟨f1, f2, f3⟩ := wordsOf_facts (l := l)
      refine ss_if (as_neNil (ds := (wordsOf l).map dI) (val_var rfl) (SqL.of hwa) (fun H' s => (hR.same s).dp) fun d hd => ?_) (fun e H6 s6 => ?_) (fun e H6 s6 => ?_)
      · obtain ⟨m, _, rfl⟩ := List.mem_map.mp hd
        exact flat_ints m
      · have hne : wordsOf l ≠ [] := fun z => by rw [z] at e; cases e
        rw [if_neg hne] at eq
        have s36 := s35.trans s6
        have hp6 := hp.keep fun b _ o e => s36 b o e
        -- try: take_line(plan, words)
        refine ⟨_, rfl, _, rfl, p, W, wa, wr, wordsOf l, (by rw [hpl]), hp6, hcp, ok, ⟨s6 _ _ hwa, hR.same s6, f1, fun wd hw => Nat.le_trans (f2 wd hw) (by omega), by omega, hne⟩, fun k hf => ?_, fun hf H7 p7 hp7 hc7 hf7 k7 => ?_⟩
        · rw [hf] at eq
          intro H7 d s7 nd hd
          refine ⟨true, T.eFault, fun _ a0 na0 => ?_, fun q => Bool.noConfusion q⟩
          have s37 := s36.trans s7
          refine ⟨_, rfl, _, _, rfl, rfl, _, rfl, rfl, rfl, d, _, _, rfl, hd, lk_here, (by show 2 ≤ sizeLine; decide), fun l1 nl1 => ⟨by show 2 ≤ sizeLine; decide, fun r nr => ?_⟩⟩
          have hlr : l1 ≠ r := fun z => by rw [← z, upd_same] at nr; cases nr
          refine kE (i + 1, k) eq.symm _ r l1 ?_ upd_same ?_
          · have s38 : Same H7 (upd (upd H7 l1 (.lst [.int (((i : Nat) : Int) + 1), .int (k : Int)])) r (.tup [.non, .ref l1])) := ((Keeps.new (S := []) nl1).trans (Keeps.new nr)).same
            exact (sk k3).trans (s37.trans s38)
          · rw [upd_ne hlr, upd_same]
            rfl
        · rw [hf] at eq
          refine ⟨_, _, _, p7, _, rfl, hp7, hc7.trans hc, ok.took hf, fun b hb => ?_, k3.trans ((Keeps.of_same s36).trans (by rw [hc] at k7; exact k7)), eq⟩
          rcases hf7 b hb with z | z
          · exact hft b z
          · exact ((sk k3).trans s36).free z
      · have hne : wordsOf l = [] := by
          cases hh : wordsOf l with
          | nil => rfl
          | cons _ _ => rw [hh] at e; cases e
        rw [if_pos hne] at eq
        have s36 := s35.trans s6
        exact ⟨_, _, _, p, W, rfl, hp.keep fun b _ o e => s36 b o e, hc, ok, hft, k3.trans (Keeps.of_same s36), eq⟩
    · rintro σ H3 ⟨v2, v3, v4, p, W, rfl, hp, hc, ok, hft, k3, eq⟩
      have hpl : p.pl = x := (List.cons.inj hc).1
      rw [List.length_map, hrl, List.drop_length] at eq
      have s03 := sk k3
      have vpl : ∀ H', Val (tVar 1) [some (.ref a), some (.ref x), v2, v3, v4, none] H' (.ref p.pl) := fun H' => by rw [hpl]; exact val_var rfl
      dsimp only
      refine ss_if (as_or (hp.noPans (val_fld (vpl _) hp.obj T.clPlan T.nPlan_pans (lF_pans _ _))) fun _ H4 s4 => as_or ((hp.keep fun b _ o e => s4 b o e).noDays (val_fld (vpl _) (hp.keep fun b _ o e => s4 b o e).obj T.clPlan T.nPlan_days (lF_days _ _))) fun _ H5 s5 =>
        as_of (ans_isN (b := W.sea.isNone) (val_fld (vpl _) (hp.keep fun b _ o e => s5 b o (s4 b o e)).obj T.clPlan T.nPlan_sea (lF_sea _ _)) ?_)) (fun e H4 s4 => ?_) (fun e H4 s4 => ?_)
      · cases W.sea <;> rfl
      · have hcond : W.pans.isEmpty = true ∨ (W.days.isEmpty = true ∨ W.sea.isNone = true) := by
          rw [Bool.or_eq_true, Bool.or_eq_true] at e
          exact e
        have he : Mu17.read t = .error (0, 7) := by rw [← eq]; exact if_pos hcond
        refine ⟨by show 2 ≤ sizeLine; decide, fun l1 nl1 => ⟨by show 2 ≤ sizeLine; decide, fun r nr => ?_⟩⟩
        have hlr : l1 ≠ r := fun z => by rw [← z, upd_same] at nr; cases nr
        refine kE (0, 7) he _ r l1 ((s03.trans s4).trans ((Keeps.new (S := []) nl1).trans (Keeps.new nr)).same) upd_same ?_
        rw [upd_ne hlr, upd_same]
        rfl
      · have hcond : ¬ (W.pans.isEmpty = true ∨ (W.days.isEmpty = true ∨ W.sea.isNone = true)) := by
          rw [Bool.or_eq_false_iff, Bool.or_eq_false_iff] at e
          rintro (z | z | z)
          · rw [e.1] at z; cases z
          · rw [e.2.1] at z; cases z
          · rw [e.2.2] at z; cases z
        have he : Mu17.read t = .ok W := by rw [← eq]; exact if_neg hcond
        refine st_next ?_
        dsimp only
        refine ⟨_, rfl, by show 0 ≤ sizeLine; decide, fun l1 nl1 => ⟨by show 2 ≤ sizeLine; decide, fun r nr => ?_⟩⟩
        have s46 : Same H4 (upd (upd H4 l1 (.lst [])) r (.tup [.ref x, .ref l1])) := ((Keeps.new (S := []) nl1).trans (Keeps.new nr)).same
        refine kO W he ok (fun z => hcond (.inl (by rw [z]; rfl))) (fun z => hcond (.inr (.inl (by rw [z]; rfl)))) ?_ _ r p l1 ((s03.trans s4).trans s46) ?_ (hp.keep fun b _ o e => s46 b o (s4 b o e)) hft
        · cases hh : W.sea with
          | none => exact absurd (.inr (.inr (by rw [hh]; rfl))) hcond
          | some n => rfl
        · rw [upd_same, hpl]
end
end Sal
namespace Sal
open PySem PySem.Spec PyProof.Rows L2
open Mu17 (Works State Brine Deed Pan Day)
/-! ### a call on a works -/
def spOf (A : Ad) (K : PySem.W.Frag) (ok : Int → Prop) : Sp := fun vs H Q _ => ∃ (Pa : PaA) (s : State) (wl : Addr) (n : Int) (args : List Int), vs = [.ref Pa.a, .int n, .ref wl] ∧ PansAt A.cPans A.cPlan H Pa s ∧ WF s ∧ SqL K H wl (args.map V.int) ∧ ArgsOk n args ∧ ok n ∧ Steps A H Pa s (callOf n args) Q
theorem ArgsOk.nat {n : Int} {args : List Int} (h : ArgsOk n args) {i : Nat} (hi : i < args.length) : args[i]? = some (((args.getD i 0).toNat : Nat) : Int) := by
  rw [List.getElem?_eq_getElem hi]
  have hp := (h.pos args[i] (List.getElem_mem hi)).1
  congr 1
  rw [List.getD_eq_getElem?_getD, List.getElem?_eq_getElem hi]
  show args[i] = ((args[i].toNat : Nat) : Int)
  omega
theorem ArgsOk.val {K : PySem.W.Frag} {H : Hp} {σ : L2.St} {to : TE} {wl : Addr} {n : Int} {args : List Int} (h : ArgsOk n args) {i : Nat} {iz : Int} (hz : iz = (i : Int)) (hi : i < args.length) (hS : SqL K H wl (args.map V.int)) (ho : Val to σ H (.ref wl)) : Val (tOp (rIxL K) to (tC (.int iz))) σ H (.int (((args.getD i 0).toNat : Nat) : Int)) := by
  subst hz
  exact val_ixL ho val_c hS (atI_nat (by rw [List.getElem?_map, h.nat hi]; rfl))
section
variable {P : Program} {w : World} {K : PySem.W.Frag} {mg : Str → Option Value} {base : Heap} {A : Ad}
theorem ok_ofPan (T : Txt K mg A) : FnOk P w K mg base CX0 8 A.f_ofPan A.d_ofPan ["pans", "number", "words"] (spOf A K fun n => n = 3 ∨ n = 6 ∨ n = 7) := by
  refine T.F_ofPan.ok sc_ofPan (fun vs H Q E h => ?_) (fun cdv Ar outer s H vs Q E hr h => ⟨_, pss_cons (ps_if (pt_cmpR op_ge (pe_ix ix_list (pv 2) pe_int (fun _ _ => rfl)) (pe_callB call_len_seq (by rfl) T.blen PySem.boot_len (pa_cons (pe_fld (pv 0) rfl) pa_nil)) (nomark _)) (pss_one (ps_ret (pe_lst (pa_cons (pe_ci rfl T.kNO_PAN) pa_nil)))) pss_nil)
    (pss_cons (ps_if (pt_cmpR op_eq (pv 1) pe_int (nomark _)) (pss_one (ps_ret (pe_meth (pv 0) T.clPans T.m_told (ok_told T) (hr.mono (by decide)) T.b_told .nil pass0 (pa_cons (pe_ix ix_list (pv 2) pe_int (fun _ _ => rfl)) pa_nil)))) pss_nil)
    (pss_cons (ps_if (pt_cmpR op_eq (pv 1) pe_int (nomark _)) (pss_one (ps_ret (pe_call (ok_sun T) hr rfl T.g_sun T.F_sun.kp T.b_sun .nil pass0 (pa_cons (pv 0) (pa_cons (pe_ix ix_list (pv 2) pe_int (fun _ _ => rfl)) pa_nil))))) pss_nil)
    (pss_one (ps_ret (pe_call (ok_pour T) (hr.mono (by decide)) rfl T.g_pour T.F_pour.kp T.b_pour .nil pass0 (pa_cons (pv 0) (pa_cons (pe_ix ix_list (pv 2) pe_int (fun _ _ => rfl)) (pa_cons (pe_ix ix_list (pv 2) pe_int (fun _ _ => rfl)) (pa_cons (pe_ix ix_list (pv 2) pe_int (fun _ _ => rfl)) pa_nil))))))))), ?_⟩)
  · obtain ⟨_, _, _, _, _, rfl, _⟩ := h
    rfl
  · obtain ⟨Pa, s, wl, n, args, rfl, hp, wf, hS, ha, hn, q⟩ := h
    have hl : 0 < args.length := by
      rw [ha.len]
      unfold nums
      rcases hn with rfl | rfl | rfl <;> decide
    have v0 : Val (tOp (rIxL K) (tVar 2) (tC (.int 0))) (start ["pans", "number", "words"] [.ref Pa.a, .int n, .ref wl]) H (.int (((args.getD 0 0).toNat : Nat) : Int)) := ha.val rfl hl hS (val_var rfl)
    generalize hi : (args.getD 0 0).toNat = i at v0
    by_cases hlt : s.pans.length ≤ i
    · refine st_yes (an_ge v0 (val_lenW T hp (val_var rfl)) (decide_eq_true (by omega))) ?_
      refine st_retL (va_cons val_c va_nil) (by show 1 ≤ 1000; decide) fun p hn' => ?_
      refine q s [-2] ?_ wf _ p (hp.new hn') (Keeps.new hn') hn' upd_same
      rcases hn with rfl | rfl | rfl
      · show Mu17.step (some s) (.pan (args.getD 0 0).toNat) = _
        rw [hi]
        show (some s, if s.pans.length ≤ i then [-2] else _) = _
        rw [if_pos hlt]
      · show Mu17.step (some s) (.sun (args.getD 0 0).toNat) = _
        rw [hi]
        show (some s, if s.pans.length ≤ i then [-2] else _) = _
        rw [if_pos hlt]
      · show Mu17.step (some s) (.pour (args.getD 0 0).toNat _ _) = _
        rw [hi]
        show (if s.pans.length ≤ i then (some s, [-2]) else _) = _
        rw [if_pos hlt]
    · have hi' : i < s.pans.length := by omega
      refine st_no (an_ge (b := false) v0 (val_lenW T hp (val_var rfl)) (decide_eq_false (by omega))) (st_next ?_)
      dsimp only
      by_cases h3 : n = 3
      · subst h3
        refine st_yes (an_eqI (val_var rfl) val_c (decide_eq_true rfl)) ?_
        refine st_retM hp (val_var rfl) (by decide +kernel) (va_cons v0 va_nil) ⟨Pa, s, i, rfl, hp, hi', fun p hn' => ?_⟩
        refine q s (toldN s i) ?_ wf _ p (hp.new hn') (Keeps.new hn') hn' upd_same
        show Mu17.step (some s) (.pan (args.getD 0 0).toNat) = _
        rw [hi]
        show (some s, if s.pans.length ≤ i then [-2] else _) = _
        rw [if_neg hlt]
        rfl
      · refine st_no (an_eqI (b := false) (val_var rfl) val_c (decide_eq_false h3)) (st_next ?_)
        dsimp only
        by_cases h6 : n = 6
        · subst h6
          refine st_yes (an_eqI (val_var rfl) val_c (decide_eq_true rfl)) ?_
          refine st_retC (va_cons (val_var rfl) (va_cons v0 va_nil)) ⟨Pa, s, i, rfl, hp, wf, hi', ?_⟩
          have q' : Steps A H Pa s (.sun (args.getD 0 0).toNat) Q := q
          rw [hi] at q'
          exact q'
        · refine st_no (an_eqI (b := false) (val_var rfl) val_c (decide_eq_false h6)) (st_next ?_)
          have h7 : n = 7 := by omega
          subst h7
          have hl3 : args.length = 3 := ha.len
          dsimp only
          refine st_retC (va_cons (val_var rfl) (va_cons v0 (va_cons (ha.val (i := 1) rfl (by omega) hS (val_var rfl)) (va_cons (ha.val (i := 2) rfl (by omega) hS (val_var rfl)) va_nil)))) ⟨Pa, s, i, _, _, rfl, hp, wf, hi', ?_⟩
          have q' : Steps A H Pa s (.pour (args.getD 0 0).toNat (args.getD 1 0).toNat (args.getD 2 0).toNat) Q := q
          rw [hi] at q'
          exact q'
theorem ok_ofWorks (T : Txt K mg A) : FnOk P w K mg base CX0 14 A.f_ofWorks A.d_ofWorks ["pans", "number", "words"] (spOf A K fun _ => True) := by
  refine T.F_ofWorks.ok sc_ofWorks (fun vs H Q E h => ?_) (fun cdv Ar outer s H vs Q E hr h => ⟨_, pss_cons (ps_if (pt_cmpR op_eq (pv 1) pe_int (nomark _)) (pss_one (ps_ret (pe_call (ok_do_ T) (hr.mono (by decide)) rfl T.g_do_ T.F_do_.kp T.b_do_ .nil pass0 (pa_cons (pv 0) (pa_cons (pe_ix ix_list (pv 2) pe_int (fun _ _ => rfl)) pa_nil))))) pss_nil)
    (pss_cons (ps_if (pt_cmpR op_eq (pv 1) pe_int (nomark _)) (pss_one (ps_ret (pe_call (ok_wait T) (hr.mono (by decide)) rfl T.g_wait T.F_wait.kp T.b_wait .nil pass0 (pa_cons (pv 0) (pa_cons (pe_ix ix_list (pv 2) pe_int (fun _ _ => rfl)) pa_nil))))) pss_nil)
    (pss_cons (ps_if (pt_cmpR op_eq (pv 1) pe_int (nomark _)) (pss_one (ps_ret (pe_meth0 (pv 0) T.clPans T.m_sums (ok_sums T) (hr.mono (by decide)) T.b_sums .nil pass0))) pss_nil)
    (pss_cons (ps_if (pt_cmpR op_eq (pv 1) pe_int (nomark _)) (pss_one (ps_ret (pe_call (ok_bestTold T) hr rfl T.g_bestTold T.F_bestTold.kp T.b_bestTold .nil pass0 (pa_cons (pv 0) (pa_cons (pe_ix ix_list (pv 2) pe_int (fun _ _ => rfl)) pa_nil))))) pss_nil)
    (pss_one (ps_ret (pe_call (ok_ofPan T) (hr.mono (by decide)) rfl T.g_ofPan T.F_ofPan.kp T.b_ofPan .nil pass0 (pa_cons (pv 0) (pa_cons (pv 1) (pa_cons (pv 2) pa_nil))))))))), ?_⟩)
  · obtain ⟨_, _, _, _, _, rfl, _⟩ := h
    rfl
  · obtain ⟨Pa, s, wl, n, args, rfl, hp, wf, hS, ha, _, q⟩ := h
    have hp1 := ha.p1
    have hp7 := ha.p7
    have hlen := ha.len
    by_cases h1 : n = 1
    · subst h1
      refine st_yes (an_eqI (val_var rfl) val_c (decide_eq_true rfl)) ?_
      exact st_retC (va_cons (val_var rfl) (va_cons (ha.val (i := 0) rfl (by rw [hlen]; decide) hS (val_var rfl)) va_nil)) ⟨Pa, s, _, rfl, hp, wf, q⟩
    refine st_no (an_eqI (b := false) (val_var rfl) val_c (decide_eq_false h1)) (st_next ?_)
    dsimp only
    by_cases h2 : n = 2
    · subst h2
      refine st_yes (an_eqI (val_var rfl) val_c (decide_eq_true rfl)) ?_
      exact st_retC (va_cons (val_var rfl) (va_cons (ha.val (i := 0) rfl (by rw [hlen]; decide) hS (val_var rfl)) va_nil)) ⟨Pa, s, _, rfl, hp, wf, q⟩
    refine st_no (an_eqI (b := false) (val_var rfl) val_c (decide_eq_false h2)) (st_next ?_)
    dsimp only
    by_cases h4 : n = 4
    · subst h4
      refine st_yes (an_eqI (val_var rfl) val_c (decide_eq_true rfl)) ?_
      refine st_retM hp (val_var rfl) (by decide +kernel) va_nil ⟨Pa, s, rfl, hp, fun p hn => ?_⟩
      exact q s (sumsN s) rfl wf _ p (hp.new hn) (Keeps.new hn) hn upd_same
    refine st_no (an_eqI (b := false) (val_var rfl) val_c (decide_eq_false h4)) (st_next ?_)
    dsimp only
    by_cases h5 : n = 5
    · subst h5
      refine st_yes (an_eqI (val_var rfl) val_c (decide_eq_true rfl)) ?_
      exact st_retC (va_cons (val_var rfl) (va_cons (ha.val (i := 0) rfl (by rw [hlen]; decide) hS (val_var rfl)) va_nil)) ⟨Pa, s, _, rfl, hp, wf, q⟩
    refine st_no (an_eqI (b := false) (val_var rfl) val_c (decide_eq_false h5)) (st_next ?_)
    dsimp only
    exact st_retC (va_cons (val_var rfl) (va_cons (val_var rfl) (va_cons (val_var rfl) va_nil))) ⟨Pa, s, wl, n, args, rfl, hp, wf, hS, ha, by omega, q⟩
end
end Sal
namespace Sal
open PySem PySem.Spec PyProof.Rows L2
open Mu17 (Works State Brine Deed Pan Day)
/-! ### the holder -/
def hF (v : V) : List (Str × V) := [("pans", v)]
theorem hF_pans (v : V) : (hF v).lookup ("pans" : Str) = some v := lk_here
theorem hF_none (v : V) {m : Str} (h : (["pans"] : List Str).all (fun g => !(m == g)) = true) : (hF v).lookup m = none := lk_none h
theorem hput (v u : V) : putF "pans" u (hF v) = hF u := put_here
/-- what the holder h holds: nothing, or the works at Pa -/
def HoldAt (A : Ad) (H : Hp) (h dx : Addr) (Pa : PaA) : Option State → Prop
  | none => H h = some (.ins A.cHolder dx (hF .non))
  | some s => H h = some (.ins A.cHolder dx (hF (.ref Pa.a))) ∧ PansAt A.cPans A.cPlan H Pa s ∧ WF s ∧ h ∉ Pa.all
theorem HoldAt.obj {A : Ad} {H : Hp} {h dx : Addr} {Pa : PaA} {o : Option State} (x : HoldAt A H h dx Pa o) : ∃ v, H h = some (.ins A.cHolder dx (hF v)) := by
  cases o with
  | none => exact ⟨_, x⟩
  | some s => exact ⟨_, x.1⟩
theorem HoldAt.keep {A : Ad} {H H' : Hp} {h dx : Addr} {Pa : PaA} {o : Option State} (x : HoldAt A H h dx Pa o) (k1 : ∀ u, H h = some u → H' h = some u) (k2 : ∀ s, o = some s → ∀ b ∈ Pa.all, ∀ u, H b = some u → H' b = some u) : HoldAt A H' h dx Pa o := by
  cases o with
  | none => exact k1 _ x
  | some s => exact ⟨k1 _ x.1, x.2.1.keep (k2 s rfl), x.2.2⟩
def spHInit (A : Ad) : Sp := fun vs H Q _ => ∃ (x dx : Addr), vs = [.ref x] ∧ H x = some (.ins A.cHolder dx []) ∧ Q .non (upd H x (.ins A.cHolder dx (hF .non)))
def spHRead (A : Ad) (K : PySem.W.Frag) : Sp := fun vs H Q _ => ∃ (h dx ta : Addr) (v : V) (t : List Nat) (o : Option State), vs = [.ref h, .ref ta] ∧ H h = some (.ins A.cHolder dx (hF v)) ∧ SqL K H ta (iv t) ∧ ta ≠ h ∧ t.length ≤ 2000 ∧
  ∀ H' p o' Pa ans, Mu17.step o (.read t) = (o', ans) → HoldAt A H' h dx Pa o' → (∀ s, o' = some s → ∀ b ∈ Pa.all, H b = none) → Keeps [h] H H' → H p = none → H' p = some (.lst (ans.map V.int)) → Q (.ref p) H'
def spHAnswer (A : Ad) (K : PySem.W.Frag) : Sp := fun vs H Q _ => ∃ (h dx wl : Addr) (Pa : PaA) (o : Option State) (n : Int) (args : List Int), vs = [.ref h, .int n, .ref wl] ∧ HoldAt A H h dx Pa o ∧ SqL K H wl (args.map V.int) ∧ ArgsOk n args ∧
  ∀ H' p o' ans, Mu17.step o (callOf n args) = (o', ans) → HoldAt A H' h dx Pa o' → ((o = none ∧ o' = none ∧ Same H H') ∨ ((∃ s, o = some s) ∧ (∃ s, o' = some s) ∧ Keeps Pa.mine H H')) → H p = none → H' p = some (.lst (ans.map V.int)) → Q (.ref p) H'
theorem step_none {n : Int} {args : List Int} : Mu17.step none (callOf n args) = (none, [-9]) := by
  unfold callOf
  split
  · rfl
  split
  · rfl
  split
  · rfl
  split
  · rfl
  split
  · rfl
  split
  · rfl
  · rfl
section
variable {P : Program} {w : World} {K : PySem.W.Frag} {mg : Str → Option Value} {base : Heap} {A : Ad}
theorem ok_hInit (T : Txt K mg A) : FnOk P w K mg base CX0 1 A.f_hInit A.d_hInit ["self"] (spHInit A) := by
  refine T.F_hInit.ok sc_hInit (fun vs H Q E h => ?_) (fun cdv Ar outer s H vs Q E hr h => ⟨_, pss_one (ps_fld (pv 0) pe_non rfl), ?_⟩)
  · obtain ⟨_, _, rfl, _⟩ := h
    rfl
  · obtain ⟨x, dx, rfl, hx, q⟩ := h
    exact st_fld val_c (val_var rfl) hx T.clHolder T.nHolder_pans (by show 0 < 1000; decide) q
theorem ok_hRead (T : Txt K mg A) : FnOk P w K mg base CX0 7 A.f_hRead A.d_hRead ["self", "text"] (spHRead A K) := by
  refine T.F_hRead.ok sc_hRead (fun vs H Q E h => ?_) (fun cdv Ar outer s H vs Q E hr h => ⟨_, pss_cons (ps_fld (pv 0) pe_non rfl)
    (pss_cons (ps_asg (pe_call (ok_read T) hr rfl T.g_read_texts T.F_read.kp T.b_read .nil pass0 (pa_cons (pv 1) pa_nil)) (pg_tup rfl (pgs_cons (pg_name (i := 2) sc_hRead.nd rfl (Or.inl rfl)) (pgs_cons (pg_name (i := 3) sc_hRead.nd rfl (Or.inl rfl)) pgs_nil))))
    (pss_cons (ps_if (pt_cmpR op_isN1 (pv 2) pe_non (nomark _)) (pss_one (ps_ret (pe_op op_cat (pe_lst (pa_cons (pe_ci rfl T.kFAULT) pa_nil)) (pv 3)))) pss_nil)
    (pss_cons (ps_fld (pv 0) (pe_make T.mkPans (ok_pInit T) (hr.mono (by decide)) rfl T.gPans T.b_pInit .nil pass0 (pa_cons (pv 2) pa_nil)) rfl)
    (pss_one (ps_ret (pe_lst (pa_cons pe_int (pa_cons (pe_callB call_len_seq (by rfl) T.blen PySem.boot_len (pa_cons (pe_fld (pv 2) rfl) pa_nil)) (pa_cons (pe_callB call_len_seq (by rfl) T.blen PySem.boot_len (pa_cons (pe_fld (pv 2) rfl) pa_nil)) pa_nil))))))))), ?_⟩)
  · obtain ⟨_, _, _, _, _, _, rfl, _⟩ := h
    rfl
  · obtain ⟨h, dx, ta, v, t, o, rfl, hh, hS, hne, hl, q⟩ := h
    refine st_fld val_c (val_var rfl) hh T.clHolder T.nHolder_pans (by show 1 < 1000; decide) ?_
    rw [hput]
    generalize hH1 : upd H h (.ins A.cHolder dx (hF .non)) = H1
    have k1 : Keeps [h] H H1 := by rw [← hH1]; exact Keeps.upd (by simp)
    have h1 : H1 h = some (.ins A.cHolder dx (hF .non)) := by rw [← hH1]; exact upd_same
    have nn : ∀ b, H1 b = none → H b = none := fun b e => k1.free e (by
      rw [List.mem_singleton]
      intro z
      rw [z, h1] at e; cases e)
    refine ⟨_, rfl, ta, t, rfl, k1.seqL hS (by simpa using hne), hl, fun x hx H2 r l s2 hr2 hl2 => ?_, fun W hW ok w1 w2 w3 H2 r p l s2 hr2 hp hfoot => ?_⟩
    · -- a fault
      have es : Mu17.step o (.read t) = (none, [-2, (x.1 : Int), (x.2 : Int)]) := by
        show (match Mu17.read t with | .error x => (none, [-2, (x.1 : Int), (x.2 : Int)]) | .ok W => (some (Mu17.begun W), [0, (W.pans.length : Int), (W.days.length : Int)])) = _
        rw [hx]
      refine ⟨r, _, rfl, SqT.of hr2, rfl, _, _, rfl, _, _, rfl, rfl, ?_⟩
      refine st_yes (ans_isN (val_var rfl) (decide_eq_true rfl)) ?_
      refine ⟨by show 1 ≤ sizeLine; decide, fun p1 n1 => ⟨_, rfl, p1, l, _, _, rfl, rfl, upd_same, (by rw [upd_ne (ne_of_none hl2 n1)]; exact hl2), by show 1 + 2 ≤ sizeLine; decide, fun p2 n2 => ?_⟩⟩
      have s3 : Same H2 (upd (upd H2 p1 (.lst [.int (-2)])) p2 (.lst ([.int (-2)] ++ [.int (x.1 : Int), .int (x.2 : Int)]))) := ((Keeps.new (S := []) n1).trans (Keeps.new n2)).same
      have n2' : H2 p2 = none := by
        have : p2 ≠ p1 := fun z => by rw [z, upd_same] at n2; cases n2
        rw [upd_ne this] at n2; exact n2
      exact q _ p2 none ⟨h, h, h, h, ⟨h, h, h, h, [], []⟩⟩ _ es (s3 _ _ (s2 _ _ h1)) (fun s z => by cases z) (k1.trans (Keeps.of_same (s2.trans s3))) (nn _ (s2.free n2')) upd_same
    · have es : Mu17.step o (.read t) = (some (Mu17.begun W), [0, (W.pans.length : Int), (W.days.length : Int)]) := by
        show (match Mu17.read t with | .error x => (none, [-2, (x.1 : Int), (x.2 : Int)]) | .ok W => (some (Mu17.begun W), [0, (W.pans.length : Int), (W.days.length : Int)])) = _
        rw [hW]
      refine ⟨r, _, rfl, SqT.of hr2, rfl, _, _, rfl, _, _, rfl, rfl, ?_⟩
      refine st_no (ans_isN (b := false) (val_var rfl) (decide_eq_false fun z => by cases z)) (st_next ?_)
      dsimp only
      -- self.pans = Pans(plan)
      refine ⟨_, rfl, fun y dy ny ndy ney => ?_⟩
      have s3 : Same H2 (upd (upd H2 dy (.own y)) y (.ins A.cPans dy [])) := ((Keeps.new (S := []) ndy).trans (Keeps.new (by rw [upd_ne (Ne.symm ney)]; exact ny))).same
      refine ⟨y, dy, p, W, rfl, upd_same, hp.keep fun b _ o e => s3 b o e, ok.np, hp.ne ny, fun H4 wl sl nwl nsl hpa k4 => ⟨rfl, ?_⟩⟩
      have s24 : Same H2 H4 := fun b o e => k4 b o (s3 b o e) (by simpa using ne_of_none e ny)
      have h4 := s24 _ _ (s2 _ _ h1)
      refine ⟨_, rfl, h, A.cHolder, dx, _, rfl, h4, T.clHolder, T.nHolder_pans, (by show 1 < 1000; decide), ?_⟩
      rw [hput]
      have hny : h ≠ y := ne_of_none (s2 _ _ h1) ny
      have hall : ∀ b ∈ (⟨y, dy, wl, sl, p⟩ : PaA).all, H1 b = none := by
        intro b hb
        unfold PaA.all at hb
        rw [List.mem_cons, List.mem_cons, List.mem_cons] at hb
        rcases hb with hb | hb | hb | hb
        · rw [hb]; exact s2.free ny
        · rw [hb]; exact s2.free (s3.free nwl)
        · rw [hb]; exact s2.free (s3.free nsl)
        · exact hfoot b hb
      have hnot : h ∉ (⟨y, dy, wl, sl, p⟩ : PaA).all := fun z => by rw [hall h z] at h1; cases h1
      generalize hH5 : upd H4 h (.ins A.cHolder dx (hF (.ref y))) = H5
      have k5 : ∀ b u, b ≠ h → H4 b = some u → H5 b = some u := fun b u hb e => by rw [← hH5, upd_ne hb]; exact e
      have h5 : H5 h = some (.ins A.cHolder dx (hF (.ref y))) := by rw [← hH5]; exact upd_same
      have hpa5 : PansAt A.cPans A.cPlan H5 ⟨y, dy, wl, sl, p⟩ (Mu17.begun W) := hpa.keep fun b hb u e => k5 b u (fun z => hnot (by rw [← z]; exact hb)) e
      have hlp : Val (tCB (fun xs H Q => ∃ p ys, xs = [.ref p] ∧ (SqL K H p ys ∨ SqT K H p ys) ∧ Q (.int ys.length) H) (tCons (tFld K (tVar 2) "pans") tNil)) [some (.ref h), some (.ref ta), some (.ref p.pl), some (.ref l)] H5 (.int (W.pans.length : Int)) := by
        have q := val_len (K := K) (σ := [some (.ref h), some (.ref ta), some (.ref p.pl), some (.ref l)]) (val_fld (val_var (i := 2) rfl) hpa5.plan.obj T.clPlan T.nPlan_pans (lF_pans _ _)) (SqL.of hpa5.plan.lp)
        rw [List.length_map, hp.np] at q
        exact q
      have hld : Val (tCB (fun xs H Q => ∃ p ys, xs = [.ref p] ∧ (SqL K H p ys ∨ SqT K H p ys) ∧ Q (.int ys.length) H) (tCons (tFld K (tVar 2) "days") tNil)) [some (.ref h), some (.ref ta), some (.ref p.pl), some (.ref l)] H5 (.int (W.days.length : Int)) := by
        have q := val_len (K := K) (σ := [some (.ref h), some (.ref ta), some (.ref p.pl), some (.ref l)]) (val_fld (val_var (i := 2) rfl) hpa5.plan.obj T.clPlan T.nPlan_days (lF_days _ _)) (SqL.of hpa5.plan.ld)
        rw [List.length_map, hp.nd] at q
        exact q
      refine st_retL (D := { nx := fun _ H' => Q .non H', rt := Q }) (va_cons val_c (va_cons hlp (va_cons hld va_nil))) (by show 3 ≤ 1000; decide) fun r2 nr2 => ?_
      have s56 : Same H5 (upd H5 r2 (.lst [.int 0, .int (W.pans.length : Int), .int (W.days.length : Int)])) := (Keeps.new (S := []) nr2).same
      have k05 : Keeps [h] H H5 := fun b u e hb => k5 b u (by simpa using hb) (s24 b u (s2 b u (k1 b u e hb)))
      have nr0 : H r2 = none := k05.free nr2 (by
        rw [List.mem_singleton]
        intro z
        rw [z, h5] at nr2; cases nr2)
      exact q _ r2 (some (Mu17.begun W)) ⟨y, dy, wl, sl, p⟩ _ es ⟨s56 _ _ h5, hpa5.same s56, begun_wf ok w1 w2 w3, hnot⟩ (fun s _ b hb => nn b (hall b hb)) (k05.trans (Keeps.of_same s56)) nr0 upd_same
theorem ok_hAnswer (T : Txt K mg A) : FnOk P w K mg base CX0 15 A.f_hAnswer A.d_hAnswer ["self", "number", "words"] (spHAnswer A K) := by
  refine T.F_hAnswer.ok sc_hAnswer (fun vs H Q E h => ?_) (fun cdv Ar outer s H vs Q E hr h => ⟨_, pss_cons (ps_if (pt_cmpR op_isN1 (pe_fld (pv 0) rfl) pe_non (nomark _)) (pss_one (ps_ret (pe_lst (pa_cons (pe_ci rfl T.kNO_WORKS) pa_nil)))) pss_nil)
    (pss_one (ps_ret (pe_call (ok_ofWorks T) hr rfl T.g_ofWorks T.F_ofWorks.kp T.b_ofWorks .nil pass0 (pa_cons (pe_fld (pv 0) rfl) (pa_cons (pv 1) (pa_cons (pv 2) pa_nil)))))), ?_⟩)
  · obtain ⟨_, _, _, _, _, _, _, rfl, _⟩ := h
    rfl
  · obtain ⟨h, dx, wl, Pa, o, n, args, rfl, hh, hS, ha, q⟩ := h
    cases o with
    | none =>
      have h0 : H h = some (.ins A.cHolder dx (hF .non)) := hh
      refine st_yes (ans_isN (val_fld (val_var rfl) h0 T.clHolder T.nHolder_pans (hF_pans _)) (decide_eq_true rfl)) ?_
      refine st_retL (va_cons val_c va_nil) (by show 1 ≤ 1000; decide) fun p hn => ?_
      have s1 : Same H (upd H p (.lst [.int (-9)])) := (Keeps.new (S := []) hn).same
      exact q _ p none [-9] step_none (s1 _ _ h0) (.inl ⟨rfl, rfl, s1⟩) hn upd_same
    | some s =>
      obtain ⟨h0, hp, wf, hnot⟩ := hh
      refine st_no (ans_isN (b := false) (val_fld (val_var rfl) h0 T.clHolder T.nHolder_pans (hF_pans _)) (decide_eq_false fun z => by cases z)) (st_next ?_)
      dsimp only
      refine st_retC (va_cons (val_fld (val_var rfl) h0 T.clHolder T.nHolder_pans (hF_pans _)) (va_cons (val_var rfl) (va_cons (val_var rfl) va_nil))) ⟨Pa, s, wl, n, args, rfl, hp, wf, hS, ha, trivial, fun s' ans es wf' H' p hp' k' hn hl' => ?_⟩
      have hh' : H' h = some (.ins A.cHolder dx (hF (.ref Pa.a))) := k' _ _ h0 fun z => hnot (mine_all z)
      exact q H' p (some s') ans es ⟨hh', hp', wf', hnot⟩ (.inr ⟨⟨s, rfl⟩, ⟨s', rfl⟩, k'⟩) hn hl'
end
end Sal
namespace Sal
open PySem PySem.Spec PyProof.Rows L2
open Mu17 (Works State Brine Deed Pan Day)
/-! ### answers -/
def spAns (K : PySem.W.Frag) : Sp := fun vs H Q _ => ∃ (a : Addr) (ns : List Int), vs = [.ref a] ∧ SqL K H a (ns.map V.int) ∧ PyMu17.answers_asked ns = true ∧ ns.length ≤ 60000 ∧
  ∀ (H' : Hp) (p : Addr), H' p = some (.lst ((PyMu17.answers ns).map V.int)) → Q (.ref p) H'
theorem cut_mid {ns : List Int} {i j : Nat} (hij : i ≤ j) (hj : j ≤ ns.length) : cutV (ns.map V.int) (some (i : Int)) (some (j : Int)) = ((ns.drop i).take (j - i)).map V.int := by
  unfold cutV
  rw [HT.sIx_nat, HT.sIx_nat, List.length_map, Nat.min_eq_left hj, Nat.min_eq_left (Nat.le_trans hij hj), ← List.map_drop, ← List.map_take]
theorem text_nats {text : List Int} (h : Mu17Neutral.text text = true) : text.length ≤ 2000 ∧ text.map V.int = iv (Mu17Neutral.nats text) ∧ (Mu17Neutral.nats text).length ≤ 2000 := by
  unfold Mu17Neutral.text at h
  rw [Bool.and_eq_true, decide_eq_true_iff] at h
  refine ⟨h.1, ?_, by unfold Mu17Neutral.nats; rw [List.length_map]; exact h.1⟩
  unfold iv Mu17Neutral.nats
  rw [List.map_map]
  refine List.map_congr_left fun z hz => ?_
  have hz' := List.all_eq_true.mp h.2 z hz
  have hp : 0 ≤ z := by
    rw [Bool.or_eq_true] at hz'
    rcases hz' with y | y
    · have : z = 10 := by simpa using y
      omega
    · unfold Mu17Neutral.seen NeutralIO.within at y
      simp at y
      omega
  show V.int z = V.int ((z.toNat : Nat) : Int)
  rw [Int.toNat_of_nonneg hp]
theorem numbers_at {p : Int} (h1 : 1 ≤ p) (h7 : p ≤ 7) : atI ([.int 0, .int 1, .int 1, .int 1, .int 0, .int 1, .int 1, .int 3] : List V) p = some (.int ((nums p : Nat) : Int)) := by
  have hp : p = 1 ∨ p = 2 ∨ p = 3 ∨ p = 4 ∨ p = 5 ∨ p = 6 ∨ p = 7 := by omega
  rcases hp with rfl | rfl | rfl | rfl | rfl | rfl | rfl <;> rfl
/-- what stands between two turns -/
structure Loop (A : Ad) (H0 : Hp) (h dx f : Addr) (ns : List Int) (i : Nat) (o : Option State) (Pa : PaA) (found : List Int) (H : Hp) : Prop where
  turn : Turn ns i o found
  hold : HoldAt A H h dx Pa o
  fl : H f = some (.lst (found.map V.int))
  sm : Same H0 H
  nf : H0 f = none
  nh : H0 h = none
  fh : f ≠ h
  al : ∀ s, o = some s → (∀ b ∈ Pa.all, H0 b = none) ∧ f ∉ Pa.all
theorem Loop.same {A : Ad} {H0 H H' : Hp} {h dx f : Addr} {ns : List Int} {i : Nat} {o : Option State} {Pa : PaA} {found : List Int} (L : Loop A H0 h dx f ns i o Pa found H) (s : Same H H') : Loop A H0 h dx f ns i o Pa found H' :=
  ⟨L.turn, L.hold.keep (fun u e => s _ _ e) (fun _ _ b _ u e => s b u e), s _ _ L.fl, L.sm.trans s, L.nf, L.nh, L.fh, L.al⟩
section
variable {P : Program} {w : World} {K : PySem.W.Frag} {mg : Str → Option Value} {base : Heap} {A : Ad}
theorem ok_answers (T : Txt K mg A) : FnOk P w K mg base CX0 20 A.f_answers A.d_answers ["calls"] (spAns K) := by
  refine T.F_answers.ok sc_answers (fun vs H Q E h => ?_) (fun cdv Ar outer s H vs Q E hr h => ⟨_, pss_cons (ps_set (i := 1) sc_answers.nd rfl (Or.inl rfl) (pe_make0 T.mkHolder (ok_hInit T) (hr.mono (by decide)) rfl T.gHolder T.b_hInit .nil pass0))
    (pss_cons (ps_set (i := 2) sc_answers.nd rfl (Or.inl rfl) (pe_lst pa_nil))
    (pss_cons (ps_set (i := 3) sc_answers.nd rfl (Or.inl rfl) pe_int)
    (pss_cons (ps_while PassesOwn.never (pt_cmpR op_lt (pv 3) (pe_callB call_len_seq (by rfl) T.blen PySem.boot_len (pa_cons (pv 0) pa_nil)) (nomark _))
      (pss_cons (ps_set (i := 4) sc_answers.nd rfl (Or.inl rfl) (pe_ix ix_list (pv 0) (pv 3) (fun _ _ => rfl)))
      (pss_cons (ps_set (i := 5) sc_answers.nd rfl (Or.inl rfl) (pe_op op_add (pv 3) pe_int))
      (pss_cons (ps_if (pt_cmpR op_eq (pv 4) (pe_ci rfl T.kREAD) (nomark _))
        (pss_cons (ps_set (i := 3) sc_answers.nd rfl (Or.inl rfl) (pe_op op_add (pe_op op_add (pv 5) pe_int) (pe_ix ix_list (pv 0) (pv 5) (fun _ _ => rfl))))
          (pss_one (ps_set (i := 6) sc_answers.nd rfl (Or.inl rfl) (pe_meth (pv 1) T.clHolder T.m_hRead (ok_hRead T) (hr.mono (by decide)) T.b_hRead .nil pass0 (pa_cons (pe_slice sl_list (pv 0) (po_some (pe_op op_add (pv 5) pe_int)) (po_some (pv 3))) pa_nil)))))
        (pss_cons (ps_set (i := 3) sc_answers.nd rfl (Or.inl rfl) (pe_op op_add (pv 5) (pe_ix ix_tup (pe_cr rfl T.gNUMBERS) (pv 4) (fun _ _ => rfl))))
          (pss_one (ps_set (i := 6) sc_answers.nd rfl (Or.inl rfl) (pe_meth (pv 1) T.clHolder T.m_hAnswer (ok_hAnswer T) (hr.mono (by decide)) T.b_hAnswer .nil pass0 (pa_cons (pv 4) (pa_cons (pe_slice sl_list (pv 0) (po_some (pv 5)) (po_some (pv 3))) pa_nil)))))))
      (pss_cons (ps_expr (pe_bm PySem.F.plainAttrs_list PySem.F.slot_list_append PySem.F.type_list_append mt_append (pv 2) (pa_cons (pe_callB call_len_seq (by rfl) T.blen PySem.boot_len (pa_cons (pv 6) pa_nil)) pa_nil)))
      (pss_one (ps_expr (pe_bm PySem.F.plainAttrs_list PySem.F.slot_list_extend PySem.F.type_list_extend mt_extend (pv 2) (pa_cons (pv 6) pa_nil)))))))))
    (pss_one (ps_ret (pv 2)))))), ?_⟩)
  · obtain ⟨_, _, rfl, _⟩ := h
    rfl
  · obtain ⟨a, ns, rfl, hS, hask, hmost, q⟩ := h
    obtain ⟨t0, hbound⟩ := turn_start hask
    -- holder = Holder()
    intro h dx nh ndx nex
    refine ⟨h, dx, rfl, upd_same, rfl, ?_⟩
    rw [upd_upd]
    generalize hH1 : upd (upd H dx (.own h)) h (.ins A.cHolder dx (hF .non)) = H1
    have s1 : Same H H1 := by rw [← hH1]; exact ((Keeps.new (S := []) ndx).trans (Keeps.new (by rw [upd_ne (Ne.symm nex)]; exact nh))).same
    have h1 : H1 h = some (.ins A.cHolder dx (hF .non)) := by rw [← hH1]; exact upd_same
    -- found = []
    refine ⟨by show 0 ≤ sizeLine; decide, fun f nf => ?_⟩
    have s2 : Same H1 (upd H1 f (.lst [])) := (Keeps.new (S := []) nf).same
    have L0 : Loop A H h dx f ns 0 none ⟨h, h, h, h, ⟨h, h, h, h, [], []⟩⟩ [] (upd H1 f (.lst [])) := ⟨t0, s2 _ _ h1, upd_same, s1.trans s2, s1.free nf, nh, (fun z => by rw [z, h1] at nf; cases nf), (fun s z => by cases z)⟩
    dsimp only
    refine ⟨fun m σ H' => ∃ (i : Nat) (o : Option State) (Pa : PaA) (found : List Int) (v4 v5 v6 : Option V), m = ns.length - i ∧ σ = [some (.ref a), some (.ref h), some (.ref f), some (.int (i : Int)), v4, v5, v6] ∧ Loop A H h dx f ns i o Pa found H',
      ⟨_, 0, _, _, _, none, none, none, rfl, rfl, L0⟩, ?_⟩
    rintro m σ H3 ⟨i, o, Pa, found, v4, v5, v6, rfl, rfl, L⟩
    have hSq := L.sm.seq hS
    have hlenv : Val (tCB (fun xs H Q => ∃ p ys, xs = [.ref p] ∧ (SqL K H p ys ∨ SqT K H p ys) ∧ Q (.int ys.length) H) (tCons (tVar 0) tNil)) [some (.ref a), some (.ref h), some (.ref f), some (.int (i : Int)), v4, v5, v6] H3 (.int (ns.length : Int)) := by
      have q := val_len (K := K) (σ := [some (.ref a), some (.ref h), some (.ref f), some (.int (i : Int)), v4, v5, v6]) (val_var (i := 0) rfl) hSq
      rw [List.length_map] at q
      exact q
    by_cases hi : i < ns.length
    · refine an_lt (val_var rfl) hlenv (decide_eq_true (by omega)) _ ?_
      refine iteT ⟨_, fun σ' H' n => n, ?_⟩
      -- behind the call: found.append(len(told)); found.extend(told)
      have fin : ∀ (H4 : Hp) (p : Addr) (o' : Option State) (Pa' : PaA) (ans : List Int) (i' : Nat) (u4 u5 : V), i < i' → Turn ns i' o' (found ++ [(ans.length : Int)] ++ ans) → HoldAt A H4 h dx Pa' o' → H4 f = some (.lst (found.map V.int)) → H4 p = some (.lst (ans.map V.int)) → p ≠ f → Same H H4 → (∀ s, o' = some s → (∀ b ∈ Pa'.all, H b = none) ∧ f ∉ Pa'.all) →
          ∀ D : Ends, (∀ σ' H', (∃ m', m' < ns.length - i ∧ ∃ (i : Nat) (o : Option State) (Pa : PaA) (found : List Int) (v4 v5 v6 : Option V), m' = ns.length - i ∧ σ' = [some (.ref a), some (.ref h), some (.ref f), some (.int (i : Int)), v4, v5, v6] ∧ Loop A H h dx f ns i o Pa found H') → D.nx σ' H') →
          tSeq (tDrop (tBM K "list" rAppend (tVar 2) (tCons (tCB (fun xs H Q => ∃ p ys, xs = [.ref p] ∧ (SqL K H p ys ∨ SqT K H p ys) ∧ Q (.int ys.length) H) (tCons (tVar 6) tNil)) tNil))) (tDrop (tBM K "list" rExtend (tVar 2) (tCons (tVar 6) tNil))) D [some (.ref a), some (.ref h), some (.ref f), some (.int (i' : Int)), some u4, some u5, some (.ref p)] H4 := by
        intro H4 p o' Pa' ans i' u4 u5 hii ht hh hf hpl hpf sm al D hD
        have hlen := turn_len ht
        rw [List.length_append, List.length_append] at hlen
        have hsz : ∀ n : Nat, n ≤ 10000000 → n < sizeLine := fun n hn => Nat.lt_of_le_of_lt hn (by decide)
        refine ⟨_, rfl, .inl ⟨rfl, _, SqL.of hf⟩, _, rfl, p, _, rfl, .inl (SqL.of hpl), f, _, _, rfl, rfl, hf, hsz _ (by rw [List.length_map]; omega), ?_⟩
        refine ⟨_, rfl, .inl ⟨rfl, _, SqL.of upd_same⟩, _, rfl, f, p, _, _, rfl, rfl, upd_same, (by rw [upd_ne hpf]; exact hpl), Nat.le_of_lt (hsz _ ?_), ?_⟩
        · rw [List.length_append, List.length_map, List.length_map]
          show found.length + 1 + ans.length ≤ 10000000
          have : [((ans.length : Nat) : Int)].length = 1 := rfl
          omega
        · rw [upd_upd, List.length_map]
          refine hD _ _ ⟨ns.length - i', by have := ht.le; omega, i', o', Pa', found ++ [(ans.length : Int)] ++ ans, _, _, _, rfl, rfl, ?_⟩
          refine ⟨ht, hh.keep (fun u e => ?_) (fun s es b hb u e => ?_), ?_, fun b u e => ?_, L.nf, L.nh, L.fh, al⟩
          · rw [upd_ne (Ne.symm L.fh)]; exact e
          · rw [upd_ne fun z => (al s es).2 (by rw [← z]; exact hb)]; exact e
          · rw [upd_same, List.map_append, List.map_append]; rfl
          · rw [upd_ne (ne_of_none e L.nf)]; exact sm b u e
      -- number = calls[at]; begin = at + 1
      refine st_set (val_ixL (val_var rfl) (val_var rfl) hSq (atI_nat (by rw [List.getElem?_map, List.getElem?_eq_getElem hi]; rfl))) ?_
      refine st_set (val_to (val_I0 (val_var rfl) val_c) (v' := .int ((i + 1 : Nat) : Int)) (congrArg V.int (by omega))) ?_
      generalize hnum : ns[i] = num
      have hnum' : ns[i]? = some num := by rw [List.getElem?_eq_getElem hi, hnum]
      by_cases h0 : num = 0
      · subst h0
        obtain ⟨text, e1, e2, e3, e4, e5⟩ := turn_read L.turn hnum'
        obtain ⟨tl1, tl2, tl3⟩ := text_nats e4
        refine st_yes (an_eqI (val_var rfl) val_c (decide_eq_true rfl)) ?_
        refine st_set (val_to (val_I0 (val_I0 (val_var rfl) val_c) (val_ixL (val_var rfl) (val_var rfl) hSq (atI_nat (by rw [List.getElem?_map, e1]; rfl)))) (v' := .int ((i + 1 + 1 + text.length : Nat) : Int)) (congrArg V.int (by omega))) ?_
        obtain ⟨v, hv⟩ := L.hold.obj
        refine ⟨_, rfl, h, dx, _, rfl, hv, hF_none _ (by decide +kernel), _, rfl, _, rfl, _, _, rfl, rfl, _, rfl, _, rfl, _, rfl, a, _, rfl, hSq, fun ta nta => ?_⟩
        have ecut : cutV (ns.map V.int) (some (((i + 1 : Nat) : Int) + 1)) (some ((i + 1 + 1 + text.length : Nat) : Int)) = iv (Mu17Neutral.nats text) := by
          have e := cut_mid (ns := ns) (i := i + 1 + 1) (j := i + 1 + 1 + text.length) (by omega) e3
          rw [Nat.add_sub_cancel_left, e2, tl2] at e
          exact e
        rw [ecut]
        have s34 : Same H3 (upd H3 ta (.lst (iv (Mu17Neutral.nats text)))) := (Keeps.new (S := []) nta).same
        have f4 := s34 _ _ L.fl
        refine ⟨h, dx, ta, v, Mu17Neutral.nats text, o, rfl, s34 _ _ hv, SqL.of upd_same, Ne.symm (ne_of_none hv nta), tl3, fun H5 p o' Pa' ans es hh hall k5 np hpl => ?_⟩
        rw [es] at e5
        have hpf : p ≠ f := fun z => by rw [z, f4] at np; cases np
        have f5 : H5 f = some (.lst (found.map V.int)) := k5 _ _ f4 (by simpa using L.fh)
        refine fin H5 p o' Pa' ans _ _ _ (by omega) e5 hh f5 hpl hpf (fun b u e => ?_) (fun s es' => ⟨fun b hb => (L.sm.trans s34).free (hall s es' b hb), fun z => by rw [hall s es' f z] at f4; cases f4⟩) _ fun σ' H' n => n
        exact k5 b u (s34 _ _ (L.sm b u e)) (by simpa using ne_of_none e L.nh)
      · obtain ⟨args, e2, e3, ok, e5⟩ := turn_other L.turn hnum' h0
        refine st_no (an_eqI (b := false) (val_var rfl) val_c (decide_eq_false h0)) ?_
        have hal := ok.len
        refine st_set (val_to (val_I0 (val_var rfl) (val_ixT val_c (val_var rfl) (T.lNUMBERS.sq H3) (numbers_at ok.p1 ok.p7))) (v' := .int ((i + 1 + args.length : Nat) : Int)) (congrArg V.int (by omega))) ?_
        obtain ⟨v, hv⟩ := L.hold.obj
        refine ⟨_, rfl, h, dx, _, rfl, hv, hF_none _ (by decide +kernel), _, rfl, _, rfl, _, rfl, _, rfl, _, rfl, _, rfl, a, _, rfl, hSq, fun ta nta => ?_⟩
        have ecut : cutV (ns.map V.int) (some ((i + 1 : Nat) : Int)) (some ((i + 1 + args.length : Nat) : Int)) = args.map V.int := by
          have e := cut_mid (ns := ns) (i := i + 1) (j := i + 1 + args.length) (by omega) e3
          rw [Nat.add_sub_cancel_left, e2] at e
          exact e
        rw [ecut]
        have s34 : Same H3 (upd H3 ta (.lst (args.map V.int))) := (Keeps.new (S := []) nta).same
        have L4 := L.same s34
        refine ⟨h, dx, ta, Pa, o, num, args, rfl, L4.hold, SqL.of upd_same, ok, fun H5 p o' ans es hh hcase np hpl => ?_⟩
        rw [es] at e5
        have f4 := L4.fl
        have hpf : p ≠ f := fun z => by rw [z, f4] at np; cases np
        rcases hcase with ⟨ho, ho', s5⟩ | ⟨⟨s0, ho⟩, ⟨s5, ho'⟩, k5⟩
        · subst ho'
          exact fin H5 p none Pa ans _ _ _ (by omega) e5 hh (s5 _ _ f4) hpl hpf (L4.sm.trans s5) (fun s z => by cases z) _ fun σ' H' n => n
        · have hal := L.al s0 ho
          refine fin H5 p o' Pa ans _ _ _ (by omega) e5 hh (k5 _ _ f4 fun z => hal.2 (mine_all z)) hpl hpf (fun b u e => ?_) (fun s _ => hal) _ fun σ' H' n => n
          exact k5 b u (L4.sm b u e) fun z => by rw [hal.1 b (mine_all z)] at e; cases e
    · have hie : i = ns.length := by have := L.turn.le; omega
      subst hie
      refine an_lt (val_var rfl) hlenv (decide_eq_false (by omega)) _ ?_
      refine iteF ⟨_, rfl, ?_⟩
      have e := turn_end L.turn
      have hf := L.fl
      rw [e] at hf
      exact q _ f hf
end
end Sal
namespace Sal
open PySem PySem.Spec PyProof.Rows L2
open PySem.W (Codec)
/-- an error of the class at S is what «except S» names -/
theorem exm_self {K : PySem.W.Frag} {S : Addr} (h1 : PySem.W.subIn K (.ref S) (.type "BaseException") = some true) (h2 : PySem.W.isClsIn K S = true) (h3 : PySem.W.typeIn K (.ref S) = some (.type "type")) (h4 : PySem.W.subIn K (.ref S) (.ref S) = some true) :
    PySem.W.exmOne K (.ref S) (.ref S) = some true := by
  have e1 : (PySem.W.subIn K (.ref S) (.type "BaseException") == some true) = true := by rw [h1] <;> rfl
  have e2 : ((PySem.W.clsIn K S).isSome && PySem.W.typeIn K (.ref S) == some (.type "type")) = true := by
    have h2' : (PySem.W.clsIn K S).isSome = true := h2
    rw [h2', h3] <;> rfl
  show (if (PySem.W.subIn K (.ref S) (.type "BaseException") == some true) = true then (if ((PySem.W.clsIn K S).isSome && PySem.W.typeIn K (.ref S) == some (.type "type")) = true then PySem.W.subIn K (.ref S) (.ref S) else none) else none) = some true
  rw [if_pos e1, if_pos e2]
  exact h4
theorem txt_mk {K : PySem.W.Frag} {h : Heap} {mg : Str → Option Value} (X : K.In h) (G : h.Ns mainGlobals mg)
    {cPans cFinder cPlan cHolder cFault aPAN aDAY aSEA aNUMBERS f_melted f_share f_pInit f_copied f_deeds f_room f_fill f_rake f_sluice f_rain f_weather f_day f_pPour f_told f_sums f_fInit f_look f_keep f_best f_sunny f_xInit f_lInit f_lines f_words f_isName f_isNumber f_worth f_asTold f_tooMany f_inBounds f_lookLine f_takeLine f_read f_standing f_do_ f_wait f_bestTold f_sun f_pour f_ofPan f_ofWorks f_hInit f_hRead f_hAnswer f_answers : Addr}
    {xnm xq : Str} {xN : Addr} {xbs : List Value} {xsn : List Str} {xsub : List Value} {xab : Bool} {xcol : Option Bool} {xdd : Option Addr} {xm0 xm1 xm2 xm3 xm5 : Option Value}
    {od_melted an_melted : Option Addr} {sl_melted : Array (Option Value)} {oc_melted kV_melted dc_melted pm_melted cd_melted ct_melted : Value}
    {od_share an_share : Option Addr} {sl_share : Array (Option Value)} {oc_share kV_share dc_share pm_share cd_share ct_share : Value}
    {od_pInit an_pInit : Option Addr} {sl_pInit : Array (Option Value)} {oc_pInit kV_pInit dc_pInit pm_pInit cd_pInit ct_pInit : Value}
    {od_copied an_copied : Option Addr} {sl_copied : Array (Option Value)} {oc_copied kV_copied dc_copied pm_copied cd_copied ct_copied : Value}
    {od_deeds an_deeds : Option Addr} {sl_deeds : Array (Option Value)} {oc_deeds kV_deeds dc_deeds pm_deeds cd_deeds ct_deeds : Value}
    {od_room an_room : Option Addr} {sl_room : Array (Option Value)} {oc_room kV_room dc_room pm_room cd_room ct_room : Value}
    {od_fill an_fill : Option Addr} {sl_fill : Array (Option Value)} {oc_fill kV_fill dc_fill pm_fill cd_fill ct_fill : Value}
    {od_rake an_rake : Option Addr} {sl_rake : Array (Option Value)} {oc_rake kV_rake dc_rake pm_rake cd_rake ct_rake : Value}
    {od_sluice an_sluice : Option Addr} {sl_sluice : Array (Option Value)} {oc_sluice kV_sluice dc_sluice pm_sluice cd_sluice ct_sluice : Value}
    {od_rain an_rain : Option Addr} {sl_rain : Array (Option Value)} {oc_rain kV_rain dc_rain pm_rain cd_rain ct_rain : Value}
    {od_weather an_weather : Option Addr} {sl_weather : Array (Option Value)} {oc_weather kV_weather dc_weather pm_weather cd_weather ct_weather : Value}
    {od_day an_day : Option Addr} {sl_day : Array (Option Value)} {oc_day kV_day dc_day pm_day cd_day ct_day : Value}
    {od_pPour an_pPour : Option Addr} {sl_pPour : Array (Option Value)} {oc_pPour kV_pPour dc_pPour pm_pPour cd_pPour ct_pPour : Value}
    {od_told an_told : Option Addr} {sl_told : Array (Option Value)} {oc_told kV_told dc_told pm_told cd_told ct_told : Value}
    {od_sums an_sums : Option Addr} {sl_sums : Array (Option Value)} {oc_sums kV_sums dc_sums pm_sums cd_sums ct_sums : Value}
    {od_fInit an_fInit : Option Addr} {sl_fInit : Array (Option Value)} {oc_fInit kV_fInit dc_fInit pm_fInit cd_fInit ct_fInit : Value}
    {od_look an_look : Option Addr} {sl_look : Array (Option Value)} {oc_look kV_look dc_look pm_look cd_look ct_look : Value}
    {od_keep an_keep : Option Addr} {sl_keep : Array (Option Value)} {oc_keep kV_keep dc_keep pm_keep cd_keep ct_keep : Value}
    {od_best an_best : Option Addr} {sl_best : Array (Option Value)} {oc_best kV_best dc_best pm_best cd_best ct_best : Value}
    {od_sunny an_sunny : Option Addr} {sl_sunny : Array (Option Value)} {oc_sunny kV_sunny dc_sunny pm_sunny cd_sunny ct_sunny : Value}
    {od_xInit an_xInit : Option Addr} {sl_xInit : Array (Option Value)} {oc_xInit kV_xInit dc_xInit pm_xInit cd_xInit ct_xInit : Value}
    {od_lInit an_lInit : Option Addr} {sl_lInit : Array (Option Value)} {oc_lInit kV_lInit dc_lInit pm_lInit cd_lInit ct_lInit : Value}
    {od_lines an_lines : Option Addr} {sl_lines : Array (Option Value)} {oc_lines kV_lines dc_lines pm_lines cd_lines ct_lines : Value}
    {od_words an_words : Option Addr} {sl_words : Array (Option Value)} {oc_words kV_words dc_words pm_words cd_words ct_words : Value}
    {od_isName an_isName : Option Addr} {sl_isName : Array (Option Value)} {oc_isName kV_isName dc_isName pm_isName cd_isName ct_isName : Value}
    {od_isNumber an_isNumber : Option Addr} {sl_isNumber : Array (Option Value)} {oc_isNumber kV_isNumber dc_isNumber pm_isNumber cd_isNumber ct_isNumber : Value}
    {od_worth an_worth : Option Addr} {sl_worth : Array (Option Value)} {oc_worth kV_worth dc_worth pm_worth cd_worth ct_worth : Value}
    {od_asTold an_asTold : Option Addr} {sl_asTold : Array (Option Value)} {oc_asTold kV_asTold dc_asTold pm_asTold cd_asTold ct_asTold : Value}
    {od_tooMany an_tooMany : Option Addr} {sl_tooMany : Array (Option Value)} {oc_tooMany kV_tooMany dc_tooMany pm_tooMany cd_tooMany ct_tooMany : Value}
    {od_inBounds an_inBounds : Option Addr} {sl_inBounds : Array (Option Value)} {oc_inBounds kV_inBounds dc_inBounds pm_inBounds cd_inBounds ct_inBounds : Value}
    {od_lookLine an_lookLine : Option Addr} {sl_lookLine : Array (Option Value)} {oc_lookLine kV_lookLine dc_lookLine pm_lookLine cd_lookLine ct_lookLine : Value}
    {od_takeLine an_takeLine : Option Addr} {sl_takeLine : Array (Option Value)} {oc_takeLine kV_takeLine dc_takeLine pm_takeLine cd_takeLine ct_takeLine : Value}
    {od_read an_read : Option Addr} {sl_read : Array (Option Value)} {oc_read kV_read dc_read pm_read cd_read ct_read : Value}
    {od_standing an_standing : Option Addr} {sl_standing : Array (Option Value)} {oc_standing kV_standing dc_standing pm_standing cd_standing ct_standing : Value}
    {od_do_ an_do_ : Option Addr} {sl_do_ : Array (Option Value)} {oc_do_ kV_do_ dc_do_ pm_do_ cd_do_ ct_do_ : Value}
    {od_wait an_wait : Option Addr} {sl_wait : Array (Option Value)} {oc_wait kV_wait dc_wait pm_wait cd_wait ct_wait : Value}
    {od_bestTold an_bestTold : Option Addr} {sl_bestTold : Array (Option Value)} {oc_bestTold kV_bestTold dc_bestTold pm_bestTold cd_bestTold ct_bestTold : Value}
    {od_sun an_sun : Option Addr} {sl_sun : Array (Option Value)} {oc_sun kV_sun dc_sun pm_sun cd_sun ct_sun : Value}
    {od_pour an_pour : Option Addr} {sl_pour : Array (Option Value)} {oc_pour kV_pour dc_pour pm_pour cd_pour ct_pour : Value}
    {od_ofPan an_ofPan : Option Addr} {sl_ofPan : Array (Option Value)} {oc_ofPan kV_ofPan dc_ofPan pm_ofPan cd_ofPan ct_ofPan : Value}
    {od_ofWorks an_ofWorks : Option Addr} {sl_ofWorks : Array (Option Value)} {oc_ofWorks kV_ofWorks dc_ofWorks pm_ofWorks cd_ofWorks ct_ofWorks : Value}
    {od_hInit an_hInit : Option Addr} {sl_hInit : Array (Option Value)} {oc_hInit kV_hInit dc_hInit pm_hInit cd_hInit ct_hInit : Value}
    {od_hRead an_hRead : Option Addr} {sl_hRead : Array (Option Value)} {oc_hRead kV_hRead dc_hRead pm_hRead cd_hRead ct_hRead : Value}
    {od_hAnswer an_hAnswer : Option Addr} {sl_hAnswer : Array (Option Value)} {oc_hAnswer kV_hAnswer dc_hAnswer pm_hAnswer cd_hAnswer ct_hAnswer : Value}
    {od_answers an_answers : Option Addr} {sl_answers : Array (Option Value)} {oc_answers kV_answers dc_answers pm_answers cd_answers ct_answers : Value}
    {t_REST : Tok}
    {t_FILL : Tok}
    {t_RAKE : Tok}
    {t_FIRST_SLUICE : Tok}
    {t_WATER_FOR_SALT : Tok}
    {t_MOST_DAYS_looking : Tok}
    {t_LINE_END : Tok}
    {t_BLANK : Tok}
    {t_NOTE : Tok}
    {t_MOST_PANS : Tok}
    {t_MOST_DAYS_texts : Tok}
    {t_MOST_LETTERS : Tok}
    {t_MOST_DIGITS : Tok}
    {t_NOT_SO : Tok}
    {t_NO_PAN : Tok}
    {t_FAULT : Tok}
    {t_NOT_GONE : Tok}
    {t_NO_WORKS : Tok}
    {t_READ : Tok}
    {t_MOST_WAIT : Tok}
    {t_MOST_BEST : Tok}
    {t_MOST_SALT : Tok}
    {u_PAN_0 u_PAN_1 u_PAN_2 : Tok} {nn_PAN : Nat} {sl_PAN : Array (Option Value)}
    {u_DAY_0 u_DAY_1 u_DAY_2 : Tok} {nn_DAY : Nat} {sl_DAY : Array (Option Value)}
    {u_SEA_0 u_SEA_1 u_SEA_2 : Tok} {nn_SEA : Nat} {sl_SEA : Array (Option Value)}
    {u_NUMBERS_0 u_NUMBERS_1 u_NUMBERS_2 u_NUMBERS_3 u_NUMBERS_4 u_NUMBERS_5 u_NUMBERS_6 u_NUMBERS_7 : Tok} {nn_NUMBERS : Nat} {sl_NUMBERS : Array (Option Value)}
    (hgPans : PySem.W.nsIn K mainGlobals "Pans" = some (some (.ref cPans)))
    (hpgPans : PySem.W.plainGet K cPans Str.empty = true)
    (hhdPans : PySem.W.hasDictIn K cPans = true)
    (hpoPans : PySem.W.plainOver K cPans = true)
    (hsaPans : PySem.W.findIn K (.ref cPans) "__setattr__" = some (some (.builtin "object.__setattr__")))
    (hmkPans : PySem.W.makesIn K cPans = true)
    (hkcPans : PySem.W.keepIn K (.ref cPans) = true)
    (haiPans : PySem.W.findIn K (.ref cPans) "__init__" = some (some (.ref f_pInit)))
    (hiiPans : PySem.W.isFn K (.ref f_pInit) = true)
    (hnPans_plan : PySem.W.findIn K (.ref cPans) "plan" = some none)
    (hnPans_water : PySem.W.findIn K (.ref cPans) "water" = some none)
    (hnPans_salt : PySem.W.findIn K (.ref cPans) "salt" = some none)
    (hnPans_store : PySem.W.findIn K (.ref cPans) "store" = some none)
    (hnPans_away : PySem.W.findIn K (.ref cPans) "away" = some none)
    (hnPans_drawn : PySem.W.findIn K (.ref cPans) "drawn" = some none)
    (hnPans_came : PySem.W.findIn K (.ref cPans) "came" = some none)
    (hnPans_gone_by : PySem.W.findIn K (.ref cPans) "gone_by" = some none)
    (hgFinder : PySem.W.nsIn K mainGlobals "Finder" = some (some (.ref cFinder)))
    (hpgFinder : PySem.W.plainGet K cFinder Str.empty = true)
    (hhdFinder : PySem.W.hasDictIn K cFinder = true)
    (hpoFinder : PySem.W.plainOver K cFinder = true)
    (hsaFinder : PySem.W.findIn K (.ref cFinder) "__setattr__" = some (some (.builtin "object.__setattr__")))
    (hmkFinder : PySem.W.makesIn K cFinder = true)
    (hkcFinder : PySem.W.keepIn K (.ref cFinder) = true)
    (haiFinder : PySem.W.findIn K (.ref cFinder) "__init__" = some (some (.ref f_fInit)))
    (hiiFinder : PySem.W.isFn K (.ref f_fInit) = true)
    (hnFinder_store : PySem.W.findIn K (.ref cFinder) "store" = some none)
    (hnFinder_many : PySem.W.findIn K (.ref cFinder) "many" = some none)
    (hnFinder_row : PySem.W.findIn K (.ref cFinder) "row" = some none)
    (hgPlan : PySem.W.nsIn K mainGlobals "Plan" = some (some (.ref cPlan)))
    (hpgPlan : PySem.W.plainGet K cPlan Str.empty = true)
    (hhdPlan : PySem.W.hasDictIn K cPlan = true)
    (hpoPlan : PySem.W.plainOver K cPlan = true)
    (hsaPlan : PySem.W.findIn K (.ref cPlan) "__setattr__" = some (some (.builtin "object.__setattr__")))
    (hmkPlan : PySem.W.makesIn K cPlan = true)
    (hkcPlan : PySem.W.keepIn K (.ref cPlan) = true)
    (haiPlan : PySem.W.findIn K (.ref cPlan) "__init__" = some (some (.ref f_lInit)))
    (hiiPlan : PySem.W.isFn K (.ref f_lInit) = true)
    (hnPlan_pans : PySem.W.findIn K (.ref cPlan) "pans" = some none)
    (hnPlan_days : PySem.W.findIn K (.ref cPlan) "days" = some none)
    (hnPlan_sea : PySem.W.findIn K (.ref cPlan) "sea" = some none)
    (hgHolder : PySem.W.nsIn K mainGlobals "Holder" = some (some (.ref cHolder)))
    (hpgHolder : PySem.W.plainGet K cHolder Str.empty = true)
    (hhdHolder : PySem.W.hasDictIn K cHolder = true)
    (hpoHolder : PySem.W.plainOver K cHolder = true)
    (hsaHolder : PySem.W.findIn K (.ref cHolder) "__setattr__" = some (some (.builtin "object.__setattr__")))
    (hmkHolder : PySem.W.makesIn K cHolder = true)
    (hkcHolder : PySem.W.keepIn K (.ref cHolder) = true)
    (haiHolder : PySem.W.findIn K (.ref cHolder) "__init__" = some (some (.ref f_hInit)))
    (hiiHolder : PySem.W.isFn K (.ref f_hInit) = true)
    (hnHolder_pans : PySem.W.findIn K (.ref cHolder) "pans" = some none)
    (hgFault : PySem.W.nsIn K mainGlobals "Fault" = some (some (.ref cFault)))
    (hxFault : K.lookup cFault = some (excClassObj xnm xq cFault xN xbs [.type "ValueError", .type "Exception", .type "BaseException", .type "object"] true xsn xsub xab xcol xdd xm0 xm1 xm2 xm3 xm5 "ValueError.__new__"))
    (hsaFault : PySem.W.findIn K (.ref cFault) "__setattr__" = some (some (.builtin "object.__setattr__")))
    (hgaFault : PySem.W.findIn K (.ref cFault) "__getattribute__" = some (some (.builtin "BaseException.__getattribute__")))
    (hggFault : PySem.W.findIn K (.ref cFault) "__getattr__" = some none)
    (hnFault : PySem.W.findIn K (.ref cFault) "number" = some none)
    (haFault : PySem.W.findIn K (.ref cFault) "__init__" = some (some (.ref f_xInit)))
    (htFault : PySem.W.typeIn K (.ref f_xInit) = some (.type "function"))
    (hkFault : PySem.W.keepIn K (.ref cFault) = true)
    (hbFault : PySem.W.subIn K (.ref cFault) (.type "BaseException") = some true)
    (hyFault : PySem.W.typeIn K (.ref cFault) = some (.type "type"))
    (hdFault : PySem.W.hasDictIn K cFault = true)
    (hiFault : PySem.W.isClsIn K cFault = true)
    (hsFault : PySem.W.subIn K (.ref cFault) (.ref cFault) = some true)
    (ha_melted : PySem.W.nsIn K mainGlobals "melted" = some (some (.ref f_melted)))
    (hl_melted : K.lookup f_melted = some ⟨oc_melted, od_melted, .func (PySem.W.fnOf "melted" "melted" (defArgs s_melted) (defBody s_melted) (defScope s_melted) .none kV_melted dc_melted pm_melted an_melted cd_melted ct_melted), sl_melted⟩)
    (hc_melted : PySem.W.codeIn K cd_melted "melted" = true)
    (hk_melted : PySem.W.keepIn K (.ref f_melted) = true)
    (ha_share : PySem.W.nsIn K mainGlobals "share" = some (some (.ref f_share)))
    (hl_share : K.lookup f_share = some ⟨oc_share, od_share, .func (PySem.W.fnOf "share" "share" (defArgs s_share) (defBody s_share) (defScope s_share) .none kV_share dc_share pm_share an_share cd_share ct_share), sl_share⟩)
    (hc_share : PySem.W.codeIn K cd_share "share" = true)
    (hk_share : PySem.W.keepIn K (.ref f_share) = true)
    (hl_pInit : K.lookup f_pInit = some ⟨oc_pInit, od_pInit, .func (PySem.W.fnOf "__init__" "Pans.__init__" (defArgs s_pInit) (defBody s_pInit) (defScope s_pInit) .none kV_pInit dc_pInit pm_pInit an_pInit cd_pInit ct_pInit), sl_pInit⟩)
    (hc_pInit : PySem.W.codeIn K cd_pInit "Pans.__init__" = true)
    (hk_pInit : PySem.W.keepIn K (.ref f_pInit) = true)
    (ha_copied : PySem.W.findIn K (.ref cPans) "copied" = some (some (.ref f_copied)))
    (hi_copied : PySem.W.isFn K (.ref f_copied) = true)
    (hl_copied : K.lookup f_copied = some ⟨oc_copied, od_copied, .func (PySem.W.fnOf "copied" "Pans.copied" (defArgs s_copied) (defBody s_copied) (defScope s_copied) .none kV_copied dc_copied pm_copied an_copied cd_copied ct_copied), sl_copied⟩)
    (hc_copied : PySem.W.codeIn K cd_copied "Pans.copied" = true)
    (hk_copied : PySem.W.keepIn K (.ref f_copied) = true)
    (ha_deeds : PySem.W.findIn K (.ref cPans) "deeds" = some (some (.ref f_deeds)))
    (hi_deeds : PySem.W.isFn K (.ref f_deeds) = true)
    (hl_deeds : K.lookup f_deeds = some ⟨oc_deeds, od_deeds, .func (PySem.W.fnOf "deeds" "Pans.deeds" (defArgs s_deeds) (defBody s_deeds) (defScope s_deeds) .none kV_deeds dc_deeds pm_deeds an_deeds cd_deeds ct_deeds), sl_deeds⟩)
    (hc_deeds : PySem.W.codeIn K cd_deeds "Pans.deeds" = true)
    (hk_deeds : PySem.W.keepIn K (.ref f_deeds) = true)
    (ha_room : PySem.W.findIn K (.ref cPans) "room" = some (some (.ref f_room)))
    (hi_room : PySem.W.isFn K (.ref f_room) = true)
    (hl_room : K.lookup f_room = some ⟨oc_room, od_room, .func (PySem.W.fnOf "room" "Pans.room" (defArgs s_room) (defBody s_room) (defScope s_room) .none kV_room dc_room pm_room an_room cd_room ct_room), sl_room⟩)
    (hc_room : PySem.W.codeIn K cd_room "Pans.room" = true)
    (hk_room : PySem.W.keepIn K (.ref f_room) = true)
    (ha_fill : PySem.W.findIn K (.ref cPans) "fill" = some (some (.ref f_fill)))
    (hi_fill : PySem.W.isFn K (.ref f_fill) = true)
    (hl_fill : K.lookup f_fill = some ⟨oc_fill, od_fill, .func (PySem.W.fnOf "fill" "Pans.fill" (defArgs s_fill) (defBody s_fill) (defScope s_fill) .none kV_fill dc_fill pm_fill an_fill cd_fill ct_fill), sl_fill⟩)
    (hc_fill : PySem.W.codeIn K cd_fill "Pans.fill" = true)
    (hk_fill : PySem.W.keepIn K (.ref f_fill) = true)
    (ha_rake : PySem.W.findIn K (.ref cPans) "rake" = some (some (.ref f_rake)))
    (hi_rake : PySem.W.isFn K (.ref f_rake) = true)
    (hl_rake : K.lookup f_rake = some ⟨oc_rake, od_rake, .func (PySem.W.fnOf "rake" "Pans.rake" (defArgs s_rake) (defBody s_rake) (defScope s_rake) .none kV_rake dc_rake pm_rake an_rake cd_rake ct_rake), sl_rake⟩)
    (hc_rake : PySem.W.codeIn K cd_rake "Pans.rake" = true)
    (hk_rake : PySem.W.keepIn K (.ref f_rake) = true)
    (ha_sluice : PySem.W.findIn K (.ref cPans) "open_sluice" = some (some (.ref f_sluice)))
    (hi_sluice : PySem.W.isFn K (.ref f_sluice) = true)
    (hl_sluice : K.lookup f_sluice = some ⟨oc_sluice, od_sluice, .func (PySem.W.fnOf "open_sluice" "Pans.open_sluice" (defArgs s_sluice) (defBody s_sluice) (defScope s_sluice) .none kV_sluice dc_sluice pm_sluice an_sluice cd_sluice ct_sluice), sl_sluice⟩)
    (hc_sluice : PySem.W.codeIn K cd_sluice "Pans.open_sluice" = true)
    (hk_sluice : PySem.W.keepIn K (.ref f_sluice) = true)
    (ha_rain : PySem.W.findIn K (.ref cPans) "rain" = some (some (.ref f_rain)))
    (hi_rain : PySem.W.isFn K (.ref f_rain) = true)
    (hl_rain : K.lookup f_rain = some ⟨oc_rain, od_rain, .func (PySem.W.fnOf "rain" "Pans.rain" (defArgs s_rain) (defBody s_rain) (defScope s_rain) .none kV_rain dc_rain pm_rain an_rain cd_rain ct_rain), sl_rain⟩)
    (hc_rain : PySem.W.codeIn K cd_rain "Pans.rain" = true)
    (hk_rain : PySem.W.keepIn K (.ref f_rain) = true)
    (ha_weather : PySem.W.findIn K (.ref cPans) "weather" = some (some (.ref f_weather)))
    (hi_weather : PySem.W.isFn K (.ref f_weather) = true)
    (hl_weather : K.lookup f_weather = some ⟨oc_weather, od_weather, .func (PySem.W.fnOf "weather" "Pans.weather" (defArgs s_weather) (defBody s_weather) (defScope s_weather) .none kV_weather dc_weather pm_weather an_weather cd_weather ct_weather), sl_weather⟩)
    (hc_weather : PySem.W.codeIn K cd_weather "Pans.weather" = true)
    (hk_weather : PySem.W.keepIn K (.ref f_weather) = true)
    (ha_day : PySem.W.findIn K (.ref cPans) "day" = some (some (.ref f_day)))
    (hi_day : PySem.W.isFn K (.ref f_day) = true)
    (hl_day : K.lookup f_day = some ⟨oc_day, od_day, .func (PySem.W.fnOf "day" "Pans.day" (defArgs s_day) (defBody s_day) (defScope s_day) .none kV_day dc_day pm_day an_day cd_day ct_day), sl_day⟩)
    (hc_day : PySem.W.codeIn K cd_day "Pans.day" = true)
    (hk_day : PySem.W.keepIn K (.ref f_day) = true)
    (ha_pPour : PySem.W.findIn K (.ref cPans) "pour" = some (some (.ref f_pPour)))
    (hi_pPour : PySem.W.isFn K (.ref f_pPour) = true)
    (hl_pPour : K.lookup f_pPour = some ⟨oc_pPour, od_pPour, .func (PySem.W.fnOf "pour" "Pans.pour" (defArgs s_pPour) (defBody s_pPour) (defScope s_pPour) .none kV_pPour dc_pPour pm_pPour an_pPour cd_pPour ct_pPour), sl_pPour⟩)
    (hc_pPour : PySem.W.codeIn K cd_pPour "Pans.pour" = true)
    (hk_pPour : PySem.W.keepIn K (.ref f_pPour) = true)
    (ha_told : PySem.W.findIn K (.ref cPans) "told" = some (some (.ref f_told)))
    (hi_told : PySem.W.isFn K (.ref f_told) = true)
    (hl_told : K.lookup f_told = some ⟨oc_told, od_told, .func (PySem.W.fnOf "told" "Pans.told" (defArgs s_told) (defBody s_told) (defScope s_told) .none kV_told dc_told pm_told an_told cd_told ct_told), sl_told⟩)
    (hc_told : PySem.W.codeIn K cd_told "Pans.told" = true)
    (hk_told : PySem.W.keepIn K (.ref f_told) = true)
    (ha_sums : PySem.W.findIn K (.ref cPans) "sums" = some (some (.ref f_sums)))
    (hi_sums : PySem.W.isFn K (.ref f_sums) = true)
    (hl_sums : K.lookup f_sums = some ⟨oc_sums, od_sums, .func (PySem.W.fnOf "sums" "Pans.sums" (defArgs s_sums) (defBody s_sums) (defScope s_sums) .none kV_sums dc_sums pm_sums an_sums cd_sums ct_sums), sl_sums⟩)
    (hc_sums : PySem.W.codeIn K cd_sums "Pans.sums" = true)
    (hk_sums : PySem.W.keepIn K (.ref f_sums) = true)
    (hl_fInit : K.lookup f_fInit = some ⟨oc_fInit, od_fInit, .func (PySem.W.fnOf "__init__" "Finder.__init__" (defArgs s_fInit) (defBody s_fInit) (defScope s_fInit) .none kV_fInit dc_fInit pm_fInit an_fInit cd_fInit ct_fInit), sl_fInit⟩)
    (hc_fInit : PySem.W.codeIn K cd_fInit "Finder.__init__" = true)
    (hk_fInit : PySem.W.keepIn K (.ref f_fInit) = true)
    (ha_look : PySem.W.findIn K (.ref cFinder) "look" = some (some (.ref f_look)))
    (hi_look : PySem.W.isFn K (.ref f_look) = true)
    (hl_look : K.lookup f_look = some ⟨oc_look, od_look, .func (PySem.W.fnOf "look" "Finder.look" (defArgs s_look) (defBody s_look) (defScope s_look) .none kV_look dc_look pm_look an_look cd_look ct_look), sl_look⟩)
    (hc_look : PySem.W.codeIn K cd_look "Finder.look" = true)
    (hk_look : PySem.W.keepIn K (.ref f_look) = true)
    (ha_keep : PySem.W.findIn K (.ref cFinder) "keep" = some (some (.ref f_keep)))
    (hi_keep : PySem.W.isFn K (.ref f_keep) = true)
    (hl_keep : K.lookup f_keep = some ⟨oc_keep, od_keep, .func (PySem.W.fnOf "keep" "Finder.keep" (defArgs s_keep) (defBody s_keep) (defScope s_keep) .none kV_keep dc_keep pm_keep an_keep cd_keep ct_keep), sl_keep⟩)
    (hc_keep : PySem.W.codeIn K cd_keep "Finder.keep" = true)
    (hk_keep : PySem.W.keepIn K (.ref f_keep) = true)
    (ha_best : PySem.W.nsIn K mainGlobals "best" = some (some (.ref f_best)))
    (hl_best : K.lookup f_best = some ⟨oc_best, od_best, .func (PySem.W.fnOf "best" "best" (defArgs s_best) (defBody s_best) (defScope s_best) .none kV_best dc_best pm_best an_best cd_best ct_best), sl_best⟩)
    (hc_best : PySem.W.codeIn K cd_best "best" = true)
    (hk_best : PySem.W.keepIn K (.ref f_best) = true)
    (ha_sunny : PySem.W.nsIn K mainGlobals "days_of_sun" = some (some (.ref f_sunny)))
    (hl_sunny : K.lookup f_sunny = some ⟨oc_sunny, od_sunny, .func (PySem.W.fnOf "days_of_sun" "days_of_sun" (defArgs s_sunny) (defBody s_sunny) (defScope s_sunny) .none kV_sunny dc_sunny pm_sunny an_sunny cd_sunny ct_sunny), sl_sunny⟩)
    (hc_sunny : PySem.W.codeIn K cd_sunny "days_of_sun" = true)
    (hk_sunny : PySem.W.keepIn K (.ref f_sunny) = true)
    (hl_xInit : K.lookup f_xInit = some ⟨oc_xInit, od_xInit, .func (PySem.W.fnOf "__init__" "Fault.__init__" (defArgs s_xInit) (defBody s_xInit) (defScope s_xInit) .none kV_xInit dc_xInit pm_xInit an_xInit cd_xInit ct_xInit), sl_xInit⟩)
    (hc_xInit : PySem.W.codeIn K cd_xInit "Fault.__init__" = true)
    (hk_xInit : PySem.W.keepIn K (.ref f_xInit) = true)
    (hl_lInit : K.lookup f_lInit = some ⟨oc_lInit, od_lInit, .func (PySem.W.fnOf "__init__" "Plan.__init__" (defArgs s_lInit) (defBody s_lInit) (defScope s_lInit) .none kV_lInit dc_lInit pm_lInit an_lInit cd_lInit ct_lInit), sl_lInit⟩)
    (hc_lInit : PySem.W.codeIn K cd_lInit "Plan.__init__" = true)
    (hk_lInit : PySem.W.keepIn K (.ref f_lInit) = true)
    (ha_lines : PySem.W.nsIn K mainGlobals "lines_of" = some (some (.ref f_lines)))
    (hl_lines : K.lookup f_lines = some ⟨oc_lines, od_lines, .func (PySem.W.fnOf "lines_of" "lines_of" (defArgs s_lines) (defBody s_lines) (defScope s_lines) .none kV_lines dc_lines pm_lines an_lines cd_lines ct_lines), sl_lines⟩)
    (hc_lines : PySem.W.codeIn K cd_lines "lines_of" = true)
    (hk_lines : PySem.W.keepIn K (.ref f_lines) = true)
    (ha_words : PySem.W.nsIn K mainGlobals "words_of" = some (some (.ref f_words)))
    (hl_words : K.lookup f_words = some ⟨oc_words, od_words, .func (PySem.W.fnOf "words_of" "words_of" (defArgs s_words) (defBody s_words) (defScope s_words) .none kV_words dc_words pm_words an_words cd_words ct_words), sl_words⟩)
    (hc_words : PySem.W.codeIn K cd_words "words_of" = true)
    (hk_words : PySem.W.keepIn K (.ref f_words) = true)
    (ha_isName : PySem.W.nsIn K mainGlobals "is_name" = some (some (.ref f_isName)))
    (hl_isName : K.lookup f_isName = some ⟨oc_isName, od_isName, .func (PySem.W.fnOf "is_name" "is_name" (defArgs s_isName) (defBody s_isName) (defScope s_isName) .none kV_isName dc_isName pm_isName an_isName cd_isName ct_isName), sl_isName⟩)
    (hc_isName : PySem.W.codeIn K cd_isName "is_name" = true)
    (hk_isName : PySem.W.keepIn K (.ref f_isName) = true)
    (ha_isNumber : PySem.W.nsIn K mainGlobals "is_number" = some (some (.ref f_isNumber)))
    (hl_isNumber : K.lookup f_isNumber = some ⟨oc_isNumber, od_isNumber, .func (PySem.W.fnOf "is_number" "is_number" (defArgs s_isNumber) (defBody s_isNumber) (defScope s_isNumber) .none kV_isNumber dc_isNumber pm_isNumber an_isNumber cd_isNumber ct_isNumber), sl_isNumber⟩)
    (hc_isNumber : PySem.W.codeIn K cd_isNumber "is_number" = true)
    (hk_isNumber : PySem.W.keepIn K (.ref f_isNumber) = true)
    (ha_worth : PySem.W.nsIn K mainGlobals "worth_of" = some (some (.ref f_worth)))
    (hl_worth : K.lookup f_worth = some ⟨oc_worth, od_worth, .func (PySem.W.fnOf "worth_of" "worth_of" (defArgs s_worth) (defBody s_worth) (defScope s_worth) .none kV_worth dc_worth pm_worth an_worth cd_worth ct_worth), sl_worth⟩)
    (hc_worth : PySem.W.codeIn K cd_worth "worth_of" = true)
    (hk_worth : PySem.W.keepIn K (.ref f_worth) = true)
    (ha_asTold : PySem.W.nsIn K mainGlobals "is_as_told" = some (some (.ref f_asTold)))
    (hl_asTold : K.lookup f_asTold = some ⟨oc_asTold, od_asTold, .func (PySem.W.fnOf "is_as_told" "is_as_told" (defArgs s_asTold) (defBody s_asTold) (defScope s_asTold) .none kV_asTold dc_asTold pm_asTold an_asTold cd_asTold ct_asTold), sl_asTold⟩)
    (hc_asTold : PySem.W.codeIn K cd_asTold "is_as_told" = true)
    (hk_asTold : PySem.W.keepIn K (.ref f_asTold) = true)
    (ha_tooMany : PySem.W.nsIn K mainGlobals "are_too_many" = some (some (.ref f_tooMany)))
    (hl_tooMany : K.lookup f_tooMany = some ⟨oc_tooMany, od_tooMany, .func (PySem.W.fnOf "are_too_many" "are_too_many" (defArgs s_tooMany) (defBody s_tooMany) (defScope s_tooMany) .none kV_tooMany dc_tooMany pm_tooMany an_tooMany cd_tooMany ct_tooMany), sl_tooMany⟩)
    (hc_tooMany : PySem.W.codeIn K cd_tooMany "are_too_many" = true)
    (hk_tooMany : PySem.W.keepIn K (.ref f_tooMany) = true)
    (ha_inBounds : PySem.W.nsIn K mainGlobals "are_in_bounds" = some (some (.ref f_inBounds)))
    (hl_inBounds : K.lookup f_inBounds = some ⟨oc_inBounds, od_inBounds, .func (PySem.W.fnOf "are_in_bounds" "are_in_bounds" (defArgs s_inBounds) (defBody s_inBounds) (defScope s_inBounds) .none kV_inBounds dc_inBounds pm_inBounds an_inBounds cd_inBounds ct_inBounds), sl_inBounds⟩)
    (hc_inBounds : PySem.W.codeIn K cd_inBounds "are_in_bounds" = true)
    (hk_inBounds : PySem.W.keepIn K (.ref f_inBounds) = true)
    (ha_lookLine : PySem.W.nsIn K mainGlobals "look_at_line" = some (some (.ref f_lookLine)))
    (hl_lookLine : K.lookup f_lookLine = some ⟨oc_lookLine, od_lookLine, .func (PySem.W.fnOf "look_at_line" "look_at_line" (defArgs s_lookLine) (defBody s_lookLine) (defScope s_lookLine) .none kV_lookLine dc_lookLine pm_lookLine an_lookLine cd_lookLine ct_lookLine), sl_lookLine⟩)
    (hc_lookLine : PySem.W.codeIn K cd_lookLine "look_at_line" = true)
    (hk_lookLine : PySem.W.keepIn K (.ref f_lookLine) = true)
    (ha_takeLine : PySem.W.nsIn K mainGlobals "take_line" = some (some (.ref f_takeLine)))
    (hl_takeLine : K.lookup f_takeLine = some ⟨oc_takeLine, od_takeLine, .func (PySem.W.fnOf "take_line" "take_line" (defArgs s_takeLine) (defBody s_takeLine) (defScope s_takeLine) .none kV_takeLine dc_takeLine pm_takeLine an_takeLine cd_takeLine ct_takeLine), sl_takeLine⟩)
    (hc_takeLine : PySem.W.codeIn K cd_takeLine "take_line" = true)
    (hk_takeLine : PySem.W.keepIn K (.ref f_takeLine) = true)
    (ha_read : PySem.W.nsIn K mainGlobals "read" = some (some (.ref f_read)))
    (hl_read : K.lookup f_read = some ⟨oc_read, od_read, .func (PySem.W.fnOf "read" "read" (defArgs s_read) (defBody s_read) (defScope s_read) .none kV_read dc_read pm_read an_read cd_read ct_read), sl_read⟩)
    (hc_read : PySem.W.codeIn K cd_read "read" = true)
    (hk_read : PySem.W.keepIn K (.ref f_read) = true)
    (ha_standing : PySem.W.nsIn K mainGlobals "standing" = some (some (.ref f_standing)))
    (hl_standing : K.lookup f_standing = some ⟨oc_standing, od_standing, .func (PySem.W.fnOf "standing" "standing" (defArgs s_standing) (defBody s_standing) (defScope s_standing) .none kV_standing dc_standing pm_standing an_standing cd_standing ct_standing), sl_standing⟩)
    (hc_standing : PySem.W.codeIn K cd_standing "standing" = true)
    (hk_standing : PySem.W.keepIn K (.ref f_standing) = true)
    (ha_do_ : PySem.W.nsIn K mainGlobals "do" = some (some (.ref f_do_)))
    (hl_do_ : K.lookup f_do_ = some ⟨oc_do_, od_do_, .func (PySem.W.fnOf "do" "do" (defArgs s_do_) (defBody s_do_) (defScope s_do_) .none kV_do_ dc_do_ pm_do_ an_do_ cd_do_ ct_do_), sl_do_⟩)
    (hc_do_ : PySem.W.codeIn K cd_do_ "do" = true)
    (hk_do_ : PySem.W.keepIn K (.ref f_do_) = true)
    (ha_wait : PySem.W.nsIn K mainGlobals "wait" = some (some (.ref f_wait)))
    (hl_wait : K.lookup f_wait = some ⟨oc_wait, od_wait, .func (PySem.W.fnOf "wait" "wait" (defArgs s_wait) (defBody s_wait) (defScope s_wait) .none kV_wait dc_wait pm_wait an_wait cd_wait ct_wait), sl_wait⟩)
    (hc_wait : PySem.W.codeIn K cd_wait "wait" = true)
    (hk_wait : PySem.W.keepIn K (.ref f_wait) = true)
    (ha_bestTold : PySem.W.nsIn K mainGlobals "best_told" = some (some (.ref f_bestTold)))
    (hl_bestTold : K.lookup f_bestTold = some ⟨oc_bestTold, od_bestTold, .func (PySem.W.fnOf "best_told" "best_told" (defArgs s_bestTold) (defBody s_bestTold) (defScope s_bestTold) .none kV_bestTold dc_bestTold pm_bestTold an_bestTold cd_bestTold ct_bestTold), sl_bestTold⟩)
    (hc_bestTold : PySem.W.codeIn K cd_bestTold "best_told" = true)
    (hk_bestTold : PySem.W.keepIn K (.ref f_bestTold) = true)
    (ha_sun : PySem.W.nsIn K mainGlobals "sun" = some (some (.ref f_sun)))
    (hl_sun : K.lookup f_sun = some ⟨oc_sun, od_sun, .func (PySem.W.fnOf "sun" "sun" (defArgs s_sun) (defBody s_sun) (defScope s_sun) .none kV_sun dc_sun pm_sun an_sun cd_sun ct_sun), sl_sun⟩)
    (hc_sun : PySem.W.codeIn K cd_sun "sun" = true)
    (hk_sun : PySem.W.keepIn K (.ref f_sun) = true)
    (ha_pour : PySem.W.nsIn K mainGlobals "pour" = some (some (.ref f_pour)))
    (hl_pour : K.lookup f_pour = some ⟨oc_pour, od_pour, .func (PySem.W.fnOf "pour" "pour" (defArgs s_pour) (defBody s_pour) (defScope s_pour) .none kV_pour dc_pour pm_pour an_pour cd_pour ct_pour), sl_pour⟩)
    (hc_pour : PySem.W.codeIn K cd_pour "pour" = true)
    (hk_pour : PySem.W.keepIn K (.ref f_pour) = true)
    (ha_ofPan : PySem.W.nsIn K mainGlobals "of_pan" = some (some (.ref f_ofPan)))
    (hl_ofPan : K.lookup f_ofPan = some ⟨oc_ofPan, od_ofPan, .func (PySem.W.fnOf "of_pan" "of_pan" (defArgs s_ofPan) (defBody s_ofPan) (defScope s_ofPan) .none kV_ofPan dc_ofPan pm_ofPan an_ofPan cd_ofPan ct_ofPan), sl_ofPan⟩)
    (hc_ofPan : PySem.W.codeIn K cd_ofPan "of_pan" = true)
    (hk_ofPan : PySem.W.keepIn K (.ref f_ofPan) = true)
    (ha_ofWorks : PySem.W.nsIn K mainGlobals "of_works" = some (some (.ref f_ofWorks)))
    (hl_ofWorks : K.lookup f_ofWorks = some ⟨oc_ofWorks, od_ofWorks, .func (PySem.W.fnOf "of_works" "of_works" (defArgs s_ofWorks) (defBody s_ofWorks) (defScope s_ofWorks) .none kV_ofWorks dc_ofWorks pm_ofWorks an_ofWorks cd_ofWorks ct_ofWorks), sl_ofWorks⟩)
    (hc_ofWorks : PySem.W.codeIn K cd_ofWorks "of_works" = true)
    (hk_ofWorks : PySem.W.keepIn K (.ref f_ofWorks) = true)
    (hl_hInit : K.lookup f_hInit = some ⟨oc_hInit, od_hInit, .func (PySem.W.fnOf "__init__" "Holder.__init__" (defArgs s_hInit) (defBody s_hInit) (defScope s_hInit) .none kV_hInit dc_hInit pm_hInit an_hInit cd_hInit ct_hInit), sl_hInit⟩)
    (hc_hInit : PySem.W.codeIn K cd_hInit "Holder.__init__" = true)
    (hk_hInit : PySem.W.keepIn K (.ref f_hInit) = true)
    (ha_hRead : PySem.W.findIn K (.ref cHolder) "read" = some (some (.ref f_hRead)))
    (hi_hRead : PySem.W.isFn K (.ref f_hRead) = true)
    (hl_hRead : K.lookup f_hRead = some ⟨oc_hRead, od_hRead, .func (PySem.W.fnOf "read" "Holder.read" (defArgs s_hRead) (defBody s_hRead) (defScope s_hRead) .none kV_hRead dc_hRead pm_hRead an_hRead cd_hRead ct_hRead), sl_hRead⟩)
    (hc_hRead : PySem.W.codeIn K cd_hRead "Holder.read" = true)
    (hk_hRead : PySem.W.keepIn K (.ref f_hRead) = true)
    (ha_hAnswer : PySem.W.findIn K (.ref cHolder) "answer" = some (some (.ref f_hAnswer)))
    (hi_hAnswer : PySem.W.isFn K (.ref f_hAnswer) = true)
    (hl_hAnswer : K.lookup f_hAnswer = some ⟨oc_hAnswer, od_hAnswer, .func (PySem.W.fnOf "answer" "Holder.answer" (defArgs s_hAnswer) (defBody s_hAnswer) (defScope s_hAnswer) .none kV_hAnswer dc_hAnswer pm_hAnswer an_hAnswer cd_hAnswer ct_hAnswer), sl_hAnswer⟩)
    (hc_hAnswer : PySem.W.codeIn K cd_hAnswer "Holder.answer" = true)
    (hk_hAnswer : PySem.W.keepIn K (.ref f_hAnswer) = true)
    (ha_answers : PySem.W.nsIn K mainGlobals "answers" = some (some (.ref f_answers)))
    (hl_answers : K.lookup f_answers = some ⟨oc_answers, od_answers, .func (PySem.W.fnOf "answers" "answers" (defArgs s_answers) (defBody s_answers) (defScope s_answers) .none kV_answers dc_answers pm_answers an_answers cd_answers ct_answers), sl_answers⟩)
    (hc_answers : PySem.W.codeIn K cd_answers "answers" = true)
    (hk_answers : PySem.W.keepIn K (.ref f_answers) = true)
    (hrt : PySem.W.nsIn K mainGlobals "read_texts" = some (some (.ref f_read)))
    (hk_REST : PySem.W.nsIn K mainGlobals "REST" = some (some (.int 0 t_REST)))
    (hk_FILL : PySem.W.nsIn K mainGlobals "FILL" = some (some (.int 1 t_FILL)))
    (hk_RAKE : PySem.W.nsIn K mainGlobals "RAKE" = some (some (.int 2 t_RAKE)))
    (hk_FIRST_SLUICE : PySem.W.nsIn K mainGlobals "FIRST_SLUICE" = some (some (.int 3 t_FIRST_SLUICE)))
    (hk_WATER_FOR_SALT : PySem.W.nsIn K mainGlobals "WATER_FOR_SALT" = some (some (.int 3 t_WATER_FOR_SALT)))
    (hk_MOST_DAYS_looking : PySem.W.nsIn K mainGlobals "MOST_DAYS_looking" = some (some (.int 100 t_MOST_DAYS_looking)))
    (hk_LINE_END : PySem.W.nsIn K mainGlobals "LINE_END" = some (some (.int 10 t_LINE_END)))
    (hk_BLANK : PySem.W.nsIn K mainGlobals "BLANK" = some (some (.int 32 t_BLANK)))
    (hk_NOTE : PySem.W.nsIn K mainGlobals "NOTE" = some (some (.int 35 t_NOTE)))
    (hk_MOST_PANS : PySem.W.nsIn K mainGlobals "MOST_PANS" = some (some (.int 3 t_MOST_PANS)))
    (hk_MOST_DAYS_texts : PySem.W.nsIn K mainGlobals "MOST_DAYS_texts" = some (some (.int 12 t_MOST_DAYS_texts)))
    (hk_MOST_LETTERS : PySem.W.nsIn K mainGlobals "MOST_LETTERS" = some (some (.int 12 t_MOST_LETTERS)))
    (hk_MOST_DIGITS : PySem.W.nsIn K mainGlobals "MOST_DIGITS" = some (some (.int 4 t_MOST_DIGITS)))
    (hk_NOT_SO : PySem.W.nsIn K mainGlobals "NOT_SO" = some (some (.int (-1) t_NOT_SO)))
    (hk_NO_PAN : PySem.W.nsIn K mainGlobals "NO_PAN" = some (some (.int (-2) t_NO_PAN)))
    (hk_FAULT : PySem.W.nsIn K mainGlobals "FAULT" = some (some (.int (-2) t_FAULT)))
    (hk_NOT_GONE : PySem.W.nsIn K mainGlobals "NOT_GONE" = some (some (.int (-6) t_NOT_GONE)))
    (hk_NO_WORKS : PySem.W.nsIn K mainGlobals "NO_WORKS" = some (some (.int (-9) t_NO_WORKS)))
    (hk_READ : PySem.W.nsIn K mainGlobals "READ" = some (some (.int 0 t_READ)))
    (hk_MOST_WAIT : PySem.W.nsIn K mainGlobals "MOST_WAIT" = some (some (.int 100 t_MOST_WAIT)))
    (hk_MOST_BEST : PySem.W.nsIn K mainGlobals "MOST_BEST" = some (some (.int 5 t_MOST_BEST)))
    (hk_MOST_SALT : PySem.W.nsIn K mainGlobals "MOST_SALT" = some (some (.int 9999 t_MOST_SALT)))
    (hg_PAN : PySem.W.nsIn K mainGlobals "PAN" = some (some (.ref aPAN)))
    (hl_PAN : K.lookup aPAN = some ⟨.type "list", none, .seq #[.int 112 u_PAN_0, .int 97 u_PAN_1, .int 110 u_PAN_2] nn_PAN, sl_PAN⟩)
    (hg_DAY : PySem.W.nsIn K mainGlobals "DAY" = some (some (.ref aDAY)))
    (hl_DAY : K.lookup aDAY = some ⟨.type "list", none, .seq #[.int 100 u_DAY_0, .int 97 u_DAY_1, .int 121 u_DAY_2] nn_DAY, sl_DAY⟩)
    (hg_SEA : PySem.W.nsIn K mainGlobals "SEA" = some (some (.ref aSEA)))
    (hl_SEA : K.lookup aSEA = some ⟨.type "list", none, .seq #[.int 115 u_SEA_0, .int 101 u_SEA_1, .int 97 u_SEA_2] nn_SEA, sl_SEA⟩)
    (hg_NUMBERS : PySem.W.nsIn K mainGlobals "NUMBERS" = some (some (.ref aNUMBERS)))
    (hl_NUMBERS : K.lookup aNUMBERS = some ⟨.type "tuple", none, .seq #[.int 0 u_NUMBERS_0, .int 1 u_NUMBERS_1, .int 1 u_NUMBERS_2, .int 1 u_NUMBERS_3, .int 0 u_NUMBERS_4, .int 1 u_NUMBERS_5, .int 1 u_NUMBERS_6, .int 3 u_NUMBERS_7] nn_NUMBERS, sl_NUMBERS⟩)
    (hb_min : PySem.W.nsIn K mainGlobals "min" = some none)
    (hb_len : PySem.W.nsIn K mainGlobals "len" = some none)
    (hb_range : PySem.W.nsIn K mainGlobals "range" = some none)
    (hb_list : PySem.W.nsIn K mainGlobals "list" = some none)
    (hb_sum : PySem.W.nsIn K mainGlobals "sum" = some none)
    (hb_all : PySem.W.nsIn K mainGlobals "all" = some none)
    (hb_enumerate : PySem.W.nsIn K mainGlobals "enumerate" = some none)
    : ∃ A : Ad, Txt K mg A ∧ A.f_answers = f_answers :=
  ⟨⟨cPans, cFinder, cPlan, cHolder, cFault, aPAN, aDAY, aSEA, aNUMBERS, f_melted, PySem.W.fnOf "melted" "melted" (defArgs s_melted) (defBody s_melted) (defScope s_melted) .none kV_melted dc_melted pm_melted an_melted cd_melted ct_melted, f_share, PySem.W.fnOf "share" "share" (defArgs s_share) (defBody s_share) (defScope s_share) .none kV_share dc_share pm_share an_share cd_share ct_share, f_pInit, PySem.W.fnOf "__init__" "Pans.__init__" (defArgs s_pInit) (defBody s_pInit) (defScope s_pInit) .none kV_pInit dc_pInit pm_pInit an_pInit cd_pInit ct_pInit, f_copied, PySem.W.fnOf "copied" "Pans.copied" (defArgs s_copied) (defBody s_copied) (defScope s_copied) .none kV_copied dc_copied pm_copied an_copied cd_copied ct_copied, f_deeds, PySem.W.fnOf "deeds" "Pans.deeds" (defArgs s_deeds) (defBody s_deeds) (defScope s_deeds) .none kV_deeds dc_deeds pm_deeds an_deeds cd_deeds ct_deeds, f_room, PySem.W.fnOf "room" "Pans.room" (defArgs s_room) (defBody s_room) (defScope s_room) .none kV_room dc_room pm_room an_room cd_room ct_room, f_fill, PySem.W.fnOf "fill" "Pans.fill" (defArgs s_fill) (defBody s_fill) (defScope s_fill) .none kV_fill dc_fill pm_fill an_fill cd_fill ct_fill, f_rake, PySem.W.fnOf "rake" "Pans.rake" (defArgs s_rake) (defBody s_rake) (defScope s_rake) .none kV_rake dc_rake pm_rake an_rake cd_rake ct_rake, f_sluice, PySem.W.fnOf "open_sluice" "Pans.open_sluice" (defArgs s_sluice) (defBody s_sluice) (defScope s_sluice) .none kV_sluice dc_sluice pm_sluice an_sluice cd_sluice ct_sluice, f_rain, PySem.W.fnOf "rain" "Pans.rain" (defArgs s_rain) (defBody s_rain) (defScope s_rain) .none kV_rain dc_rain pm_rain an_rain cd_rain ct_rain, f_weather, PySem.W.fnOf "weather" "Pans.weather" (defArgs s_weather) (defBody s_weather) (defScope s_weather) .none kV_weather dc_weather pm_weather an_weather cd_weather ct_weather, f_day, PySem.W.fnOf "day" "Pans.day" (defArgs s_day) (defBody s_day) (defScope s_day) .none kV_day dc_day pm_day an_day cd_day ct_day, f_pPour, PySem.W.fnOf "pour" "Pans.pour" (defArgs s_pPour) (defBody s_pPour) (defScope s_pPour) .none kV_pPour dc_pPour pm_pPour an_pPour cd_pPour ct_pPour, f_told, PySem.W.fnOf "told" "Pans.told" (defArgs s_told) (defBody s_told) (defScope s_told) .none kV_told dc_told pm_told an_told cd_told ct_told, f_sums, PySem.W.fnOf "sums" "Pans.sums" (defArgs s_sums) (defBody s_sums) (defScope s_sums) .none kV_sums dc_sums pm_sums an_sums cd_sums ct_sums, f_fInit, PySem.W.fnOf "__init__" "Finder.__init__" (defArgs s_fInit) (defBody s_fInit) (defScope s_fInit) .none kV_fInit dc_fInit pm_fInit an_fInit cd_fInit ct_fInit, f_look, PySem.W.fnOf "look" "Finder.look" (defArgs s_look) (defBody s_look) (defScope s_look) .none kV_look dc_look pm_look an_look cd_look ct_look, f_keep, PySem.W.fnOf "keep" "Finder.keep" (defArgs s_keep) (defBody s_keep) (defScope s_keep) .none kV_keep dc_keep pm_keep an_keep cd_keep ct_keep, f_best, PySem.W.fnOf "best" "best" (defArgs s_best) (defBody s_best) (defScope s_best) .none kV_best dc_best pm_best an_best cd_best ct_best, f_sunny, PySem.W.fnOf "days_of_sun" "days_of_sun" (defArgs s_sunny) (defBody s_sunny) (defScope s_sunny) .none kV_sunny dc_sunny pm_sunny an_sunny cd_sunny ct_sunny, f_xInit, PySem.W.fnOf "__init__" "Fault.__init__" (defArgs s_xInit) (defBody s_xInit) (defScope s_xInit) .none kV_xInit dc_xInit pm_xInit an_xInit cd_xInit ct_xInit, f_lInit, PySem.W.fnOf "__init__" "Plan.__init__" (defArgs s_lInit) (defBody s_lInit) (defScope s_lInit) .none kV_lInit dc_lInit pm_lInit an_lInit cd_lInit ct_lInit, f_lines, PySem.W.fnOf "lines_of" "lines_of" (defArgs s_lines) (defBody s_lines) (defScope s_lines) .none kV_lines dc_lines pm_lines an_lines cd_lines ct_lines, f_words, PySem.W.fnOf "words_of" "words_of" (defArgs s_words) (defBody s_words) (defScope s_words) .none kV_words dc_words pm_words an_words cd_words ct_words, f_isName, PySem.W.fnOf "is_name" "is_name" (defArgs s_isName) (defBody s_isName) (defScope s_isName) .none kV_isName dc_isName pm_isName an_isName cd_isName ct_isName, f_isNumber, PySem.W.fnOf "is_number" "is_number" (defArgs s_isNumber) (defBody s_isNumber) (defScope s_isNumber) .none kV_isNumber dc_isNumber pm_isNumber an_isNumber cd_isNumber ct_isNumber, f_worth, PySem.W.fnOf "worth_of" "worth_of" (defArgs s_worth) (defBody s_worth) (defScope s_worth) .none kV_worth dc_worth pm_worth an_worth cd_worth ct_worth, f_asTold, PySem.W.fnOf "is_as_told" "is_as_told" (defArgs s_asTold) (defBody s_asTold) (defScope s_asTold) .none kV_asTold dc_asTold pm_asTold an_asTold cd_asTold ct_asTold, f_tooMany, PySem.W.fnOf "are_too_many" "are_too_many" (defArgs s_tooMany) (defBody s_tooMany) (defScope s_tooMany) .none kV_tooMany dc_tooMany pm_tooMany an_tooMany cd_tooMany ct_tooMany, f_inBounds, PySem.W.fnOf "are_in_bounds" "are_in_bounds" (defArgs s_inBounds) (defBody s_inBounds) (defScope s_inBounds) .none kV_inBounds dc_inBounds pm_inBounds an_inBounds cd_inBounds ct_inBounds, f_lookLine, PySem.W.fnOf "look_at_line" "look_at_line" (defArgs s_lookLine) (defBody s_lookLine) (defScope s_lookLine) .none kV_lookLine dc_lookLine pm_lookLine an_lookLine cd_lookLine ct_lookLine, f_takeLine, PySem.W.fnOf "take_line" "take_line" (defArgs s_takeLine) (defBody s_takeLine) (defScope s_takeLine) .none kV_takeLine dc_takeLine pm_takeLine an_takeLine cd_takeLine ct_takeLine, f_read, PySem.W.fnOf "read" "read" (defArgs s_read) (defBody s_read) (defScope s_read) .none kV_read dc_read pm_read an_read cd_read ct_read, f_standing, PySem.W.fnOf "standing" "standing" (defArgs s_standing) (defBody s_standing) (defScope s_standing) .none kV_standing dc_standing pm_standing an_standing cd_standing ct_standing, f_do_, PySem.W.fnOf "do" "do" (defArgs s_do_) (defBody s_do_) (defScope s_do_) .none kV_do_ dc_do_ pm_do_ an_do_ cd_do_ ct_do_, f_wait, PySem.W.fnOf "wait" "wait" (defArgs s_wait) (defBody s_wait) (defScope s_wait) .none kV_wait dc_wait pm_wait an_wait cd_wait ct_wait, f_bestTold, PySem.W.fnOf "best_told" "best_told" (defArgs s_bestTold) (defBody s_bestTold) (defScope s_bestTold) .none kV_bestTold dc_bestTold pm_bestTold an_bestTold cd_bestTold ct_bestTold, f_sun, PySem.W.fnOf "sun" "sun" (defArgs s_sun) (defBody s_sun) (defScope s_sun) .none kV_sun dc_sun pm_sun an_sun cd_sun ct_sun, f_pour, PySem.W.fnOf "pour" "pour" (defArgs s_pour) (defBody s_pour) (defScope s_pour) .none kV_pour dc_pour pm_pour an_pour cd_pour ct_pour, f_ofPan, PySem.W.fnOf "of_pan" "of_pan" (defArgs s_ofPan) (defBody s_ofPan) (defScope s_ofPan) .none kV_ofPan dc_ofPan pm_ofPan an_ofPan cd_ofPan ct_ofPan, f_ofWorks, PySem.W.fnOf "of_works" "of_works" (defArgs s_ofWorks) (defBody s_ofWorks) (defScope s_ofWorks) .none kV_ofWorks dc_ofWorks pm_ofWorks an_ofWorks cd_ofWorks ct_ofWorks, f_hInit, PySem.W.fnOf "__init__" "Holder.__init__" (defArgs s_hInit) (defBody s_hInit) (defScope s_hInit) .none kV_hInit dc_hInit pm_hInit an_hInit cd_hInit ct_hInit, f_hRead, PySem.W.fnOf "read" "Holder.read" (defArgs s_hRead) (defBody s_hRead) (defScope s_hRead) .none kV_hRead dc_hRead pm_hRead an_hRead cd_hRead ct_hRead, f_hAnswer, PySem.W.fnOf "answer" "Holder.answer" (defArgs s_hAnswer) (defBody s_hAnswer) (defScope s_hAnswer) .none kV_hAnswer dc_hAnswer pm_hAnswer an_hAnswer cd_hAnswer ct_hAnswer, f_answers, PySem.W.fnOf "answers" "answers" (defArgs s_answers) (defBody s_answers) (defScope s_answers) .none kV_answers dc_answers pm_answers an_answers cd_answers ct_answers⟩,
  { clPans := ⟨hpgPans, hhdPans, hpoPans, hsaPans⟩,
    gPans := PySem.W.mg_of X G hgPans,
    mkPans := ⟨hmkPans, haiPans, hiiPans, hkcPans⟩,
    nPans_plan := hnPans_plan,
    nPans_water := hnPans_water,
    nPans_salt := hnPans_salt,
    nPans_store := hnPans_store,
    nPans_away := hnPans_away,
    nPans_drawn := hnPans_drawn,
    nPans_came := hnPans_came,
    nPans_gone_by := hnPans_gone_by,
    clFinder := ⟨hpgFinder, hhdFinder, hpoFinder, hsaFinder⟩,
    gFinder := PySem.W.mg_of X G hgFinder,
    mkFinder := ⟨hmkFinder, haiFinder, hiiFinder, hkcFinder⟩,
    nFinder_store := hnFinder_store,
    nFinder_many := hnFinder_many,
    nFinder_row := hnFinder_row,
    clPlan := ⟨hpgPlan, hhdPlan, hpoPlan, hsaPlan⟩,
    gPlan := PySem.W.mg_of X G hgPlan,
    mkPlan := ⟨hmkPlan, haiPlan, hiiPlan, hkcPlan⟩,
    nPlan_pans := hnPlan_pans,
    nPlan_days := hnPlan_days,
    nPlan_sea := hnPlan_sea,
    clHolder := ⟨hpgHolder, hhdHolder, hpoHolder, hsaHolder⟩,
    gHolder := PySem.W.mg_of X G hgHolder,
    mkHolder := ⟨hmkHolder, haiHolder, hiiHolder, hkcHolder⟩,
    nHolder_pans := hnHolder_pans,
    gFault := PySem.W.mg_of X G hgFault,
    oFault := ⟨⟨xnm, xq, xN, xbs, _, xsn, xsub, xab, xcol, xdd, xm0, xm1, xm2, xm3, xm5, hxFault, by decide +kernel⟩, hsaFault, hbFault, hyFault, hkFault⟩,
    xFault := ⟨hgaFault, hggFault, hbFault, hdFault⟩,
    nFault_number := hnFault,
    iFault := haFault,
    tFault := htFault,
    eFault := exm_self hbFault hiFault hyFault hsFault,
    F_melted := fun_mk hl_melted hc_melted hk_melted,
    g_melted := PySem.W.mg_of X G ha_melted,
    F_share := fun_mk hl_share hc_share hk_share,
    g_share := PySem.W.mg_of X G ha_share,
    F_pInit := fun_mk hl_pInit hc_pInit hk_pInit,
    F_copied := fun_mk hl_copied hc_copied hk_copied,
    m_copied := ⟨ha_copied, hi_copied, hk_copied⟩,
    F_deeds := fun_mk hl_deeds hc_deeds hk_deeds,
    m_deeds := ⟨ha_deeds, hi_deeds, hk_deeds⟩,
    F_room := fun_mk hl_room hc_room hk_room,
    m_room := ⟨ha_room, hi_room, hk_room⟩,
    F_fill := fun_mk hl_fill hc_fill hk_fill,
    m_fill := ⟨ha_fill, hi_fill, hk_fill⟩,
    F_rake := fun_mk hl_rake hc_rake hk_rake,
    m_rake := ⟨ha_rake, hi_rake, hk_rake⟩,
    F_sluice := fun_mk hl_sluice hc_sluice hk_sluice,
    m_sluice := ⟨ha_sluice, hi_sluice, hk_sluice⟩,
    F_rain := fun_mk hl_rain hc_rain hk_rain,
    m_rain := ⟨ha_rain, hi_rain, hk_rain⟩,
    F_weather := fun_mk hl_weather hc_weather hk_weather,
    m_weather := ⟨ha_weather, hi_weather, hk_weather⟩,
    F_day := fun_mk hl_day hc_day hk_day,
    m_day := ⟨ha_day, hi_day, hk_day⟩,
    F_pPour := fun_mk hl_pPour hc_pPour hk_pPour,
    m_pPour := ⟨ha_pPour, hi_pPour, hk_pPour⟩,
    F_told := fun_mk hl_told hc_told hk_told,
    m_told := ⟨ha_told, hi_told, hk_told⟩,
    F_sums := fun_mk hl_sums hc_sums hk_sums,
    m_sums := ⟨ha_sums, hi_sums, hk_sums⟩,
    F_fInit := fun_mk hl_fInit hc_fInit hk_fInit,
    F_look := fun_mk hl_look hc_look hk_look,
    m_look := ⟨ha_look, hi_look, hk_look⟩,
    F_keep := fun_mk hl_keep hc_keep hk_keep,
    m_keep := ⟨ha_keep, hi_keep, hk_keep⟩,
    F_best := fun_mk hl_best hc_best hk_best,
    g_best := PySem.W.mg_of X G ha_best,
    F_sunny := fun_mk hl_sunny hc_sunny hk_sunny,
    g_sunny := PySem.W.mg_of X G ha_sunny,
    F_xInit := fun_mk hl_xInit hc_xInit hk_xInit,
    F_lInit := fun_mk hl_lInit hc_lInit hk_lInit,
    F_lines := fun_mk hl_lines hc_lines hk_lines,
    g_lines := PySem.W.mg_of X G ha_lines,
    F_words := fun_mk hl_words hc_words hk_words,
    g_words := PySem.W.mg_of X G ha_words,
    F_isName := fun_mk hl_isName hc_isName hk_isName,
    g_isName := PySem.W.mg_of X G ha_isName,
    F_isNumber := fun_mk hl_isNumber hc_isNumber hk_isNumber,
    g_isNumber := PySem.W.mg_of X G ha_isNumber,
    F_worth := fun_mk hl_worth hc_worth hk_worth,
    g_worth := PySem.W.mg_of X G ha_worth,
    F_asTold := fun_mk hl_asTold hc_asTold hk_asTold,
    g_asTold := PySem.W.mg_of X G ha_asTold,
    F_tooMany := fun_mk hl_tooMany hc_tooMany hk_tooMany,
    g_tooMany := PySem.W.mg_of X G ha_tooMany,
    F_inBounds := fun_mk hl_inBounds hc_inBounds hk_inBounds,
    g_inBounds := PySem.W.mg_of X G ha_inBounds,
    F_lookLine := fun_mk hl_lookLine hc_lookLine hk_lookLine,
    g_lookLine := PySem.W.mg_of X G ha_lookLine,
    F_takeLine := fun_mk hl_takeLine hc_takeLine hk_takeLine,
    g_takeLine := PySem.W.mg_of X G ha_takeLine,
    F_read := fun_mk hl_read hc_read hk_read,
    g_read := PySem.W.mg_of X G ha_read,
    F_standing := fun_mk hl_standing hc_standing hk_standing,
    g_standing := PySem.W.mg_of X G ha_standing,
    F_do_ := fun_mk hl_do_ hc_do_ hk_do_,
    g_do_ := PySem.W.mg_of X G ha_do_,
    F_wait := fun_mk hl_wait hc_wait hk_wait,
    g_wait := PySem.W.mg_of X G ha_wait,
    F_bestTold := fun_mk hl_bestTold hc_bestTold hk_bestTold,
    g_bestTold := PySem.W.mg_of X G ha_bestTold,
    F_sun := fun_mk hl_sun hc_sun hk_sun,
    g_sun := PySem.W.mg_of X G ha_sun,
    F_pour := fun_mk hl_pour hc_pour hk_pour,
    g_pour := PySem.W.mg_of X G ha_pour,
    F_ofPan := fun_mk hl_ofPan hc_ofPan hk_ofPan,
    g_ofPan := PySem.W.mg_of X G ha_ofPan,
    F_ofWorks := fun_mk hl_ofWorks hc_ofWorks hk_ofWorks,
    g_ofWorks := PySem.W.mg_of X G ha_ofWorks,
    F_hInit := fun_mk hl_hInit hc_hInit hk_hInit,
    F_hRead := fun_mk hl_hRead hc_hRead hk_hRead,
    m_hRead := ⟨ha_hRead, hi_hRead, hk_hRead⟩,
    F_hAnswer := fun_mk hl_hAnswer hc_hAnswer hk_hAnswer,
    m_hAnswer := ⟨ha_hAnswer, hi_hAnswer, hk_hAnswer⟩,
    F_answers := fun_mk hl_answers hc_answers hk_answers,
    g_answers := PySem.W.mg_of X G ha_answers,
    g_read_texts := PySem.W.mg_of X G hrt,
    kREST := ⟨_, PySem.W.mg_of X G hk_REST⟩,
    kFILL := ⟨_, PySem.W.mg_of X G hk_FILL⟩,
    kRAKE := ⟨_, PySem.W.mg_of X G hk_RAKE⟩,
    kFIRST_SLUICE := ⟨_, PySem.W.mg_of X G hk_FIRST_SLUICE⟩,
    kWATER_FOR_SALT := ⟨_, PySem.W.mg_of X G hk_WATER_FOR_SALT⟩,
    kMOST_DAYS_looking := ⟨_, PySem.W.mg_of X G hk_MOST_DAYS_looking⟩,
    kLINE_END := ⟨_, PySem.W.mg_of X G hk_LINE_END⟩,
    kBLANK := ⟨_, PySem.W.mg_of X G hk_BLANK⟩,
    kNOTE := ⟨_, PySem.W.mg_of X G hk_NOTE⟩,
    kMOST_PANS := ⟨_, PySem.W.mg_of X G hk_MOST_PANS⟩,
    kMOST_DAYS_texts := ⟨_, PySem.W.mg_of X G hk_MOST_DAYS_texts⟩,
    kMOST_LETTERS := ⟨_, PySem.W.mg_of X G hk_MOST_LETTERS⟩,
    kMOST_DIGITS := ⟨_, PySem.W.mg_of X G hk_MOST_DIGITS⟩,
    kNOT_SO := ⟨_, PySem.W.mg_of X G hk_NOT_SO⟩,
    kNO_PAN := ⟨_, PySem.W.mg_of X G hk_NO_PAN⟩,
    kFAULT := ⟨_, PySem.W.mg_of X G hk_FAULT⟩,
    kNOT_GONE := ⟨_, PySem.W.mg_of X G hk_NOT_GONE⟩,
    kNO_WORKS := ⟨_, PySem.W.mg_of X G hk_NO_WORKS⟩,
    kREAD := ⟨_, PySem.W.mg_of X G hk_READ⟩,
    kMOST_WAIT := ⟨_, PySem.W.mg_of X G hk_MOST_WAIT⟩,
    kMOST_BEST := ⟨_, PySem.W.mg_of X G hk_MOST_BEST⟩,
    kMOST_SALT := ⟨_, PySem.W.mg_of X G hk_MOST_SALT⟩,
    gPAN := PySem.W.mg_of X G hg_PAN,
    lPAN := ⟨_, _, _, hl_PAN, rfl, rfl, rfl, (by show 3 ≤ sizeLine; decide), (.cons ⟨_, rfl⟩ (.cons ⟨_, rfl⟩ (.cons ⟨_, rfl⟩ .nil)))⟩,
    gDAY := PySem.W.mg_of X G hg_DAY,
    lDAY := ⟨_, _, _, hl_DAY, rfl, rfl, rfl, (by show 3 ≤ sizeLine; decide), (.cons ⟨_, rfl⟩ (.cons ⟨_, rfl⟩ (.cons ⟨_, rfl⟩ .nil)))⟩,
    gSEA := PySem.W.mg_of X G hg_SEA,
    lSEA := ⟨_, _, _, hl_SEA, rfl, rfl, rfl, (by show 3 ≤ sizeLine; decide), (.cons ⟨_, rfl⟩ (.cons ⟨_, rfl⟩ (.cons ⟨_, rfl⟩ .nil)))⟩,
    gNUMBERS := PySem.W.mg_of X G hg_NUMBERS,
    lNUMBERS := ⟨_, _, _, hl_NUMBERS, rfl, rfl, (by show 8 ≤ sizeLine; decide), (.cons ⟨_, rfl⟩ (.cons ⟨_, rfl⟩ (.cons ⟨_, rfl⟩ (.cons ⟨_, rfl⟩ (.cons ⟨_, rfl⟩ (.cons ⟨_, rfl⟩ (.cons ⟨_, rfl⟩ (.cons ⟨_, rfl⟩ .nil))))))))⟩,
    bmin := PySem.W.mg_none_of X G hb_min,
    blen := PySem.W.mg_none_of X G hb_len,
    brange := PySem.W.mg_none_of X G hb_range,
    blist := PySem.W.mg_none_of X G hb_list,
    bsum := PySem.W.mg_none_of X G hb_sum,
    ball := PySem.W.mg_none_of X G hb_all,
    benumerate := PySem.W.mg_none_of X G hb_enumerate }, rfl⟩
theorem all_mk {P : Program} {w : World} {K : PySem.W.Frag} {h : Heap} {mg : Str → Option Value} {fa : Addr} (X : K.In h) (G : h.Ns mainGlobals mg) (hfa : mg "answers" = some (.ref fa)) (T : ∃ A : Ad, Txt K mg A) :
    ∃ fd : FuncData, (∀ (s : Shared) (us : List Value), us.length = (["calls"] : List Str).length → BindsTo s fd ⟨us, []⟩ ((["calls"] : List Str).zip us)) ∧ ∀ base : Heap, K.In base → base.Ns mainGlobals mg → FnOk P w K mg base CX0 20 fa fd ["calls"] (spAns K) := by
  obtain ⟨A, T⟩ := T
  have e := hfa.symm.trans T.g_answers
  cases e
  refine ⟨A.d_answers, fun s us hu => ?_, fun base _ _ => ok_answers T⟩
  obtain ⟨oc, od, kV, doc, pm, an, cdv, ct, osl, e, _⟩ := T.F_answers.ex
  rw [e]
  match us, hu with
  | [_], _ => exact .of_eq rfl
theorem txt_of {K : PySem.W.Frag} {mg : Str → Option Value} {f : Addr} (h : ∃ A : Ad, Txt K mg A ∧ A.f_answers = f) : ∃ A : Ad, Txt K mg A := let ⟨A, T, _⟩ := h; ⟨A, T⟩
end Sal
open PySem PySem.W PyProof.Rows
set_option maxRecDepth 100000 in
set_option maxHeartbeats 8000000 in
theorem PySem.Challenge.cw_saltpans_s01_answers_holds : PySem.Challenge.rw_saltpans_s01_answers.Holds := by
  w_on; k_headS; (case hw => exact ⟨[.list [.int 4]], by decide +kernel, by decide +kernel⟩)
  k_fillS
  refine L2.walk_specK (r := PySem.Challenge.rw_saltpans_s01_answers) (k := 20) (CX := L2.CX0) (ps := ["calls"]) (sp := Sal.spAns) (by decide +kernel) rfl rfl ⟨rfl, by decide, by decide⟩ (fun w h Y => PySem.W.kIn_of Y) ?F ?S (fun _ _ _ _ z => z)
  case F =>
    intro w mg fa h Y KX G hmg
    refine' Sal.all_mk KX G hmg (Sal.txt_of (Sal.txt_mk KX G
      ?hgPans ?hpgPans ?hhdPans ?hpoPans ?hsaPans ?hmkPans ?hkcPans ?haiPans ?hiiPans ?hnPans_plan ?hnPans_water ?hnPans_salt ?hnPans_store ?hnPans_away ?hnPans_drawn
      ?hnPans_came ?hnPans_gone_by ?hgFinder ?hpgFinder ?hhdFinder ?hpoFinder ?hsaFinder ?hmkFinder ?hkcFinder ?haiFinder ?hiiFinder ?hnFinder_store ?hnFinder_many
      ?hnFinder_row ?hgPlan ?hpgPlan ?hhdPlan ?hpoPlan ?hsaPlan ?hmkPlan ?hkcPlan ?haiPlan ?hiiPlan ?hnPlan_pans ?hnPlan_days ?hnPlan_sea ?hgHolder ?hpgHolder
      ?hhdHolder ?hpoHolder ?hsaHolder ?hmkHolder ?hkcHolder ?haiHolder ?hiiHolder ?hnHolder_pans ?hgFault ?hxFault ?hsaFault ?hgaFault ?hggFault ?hnFault ?haFault
      ?htFault ?hkFault ?hbFault ?hyFault ?hdFault ?hiFault ?hsFault ?ha_melted ?hl_melted ?hc_melted ?hk_melted ?ha_share ?hl_share ?hc_share ?hk_share ?hl_pInit
      ?hc_pInit ?hk_pInit ?ha_copied ?hi_copied ?hl_copied ?hc_copied ?hk_copied ?ha_deeds ?hi_deeds ?hl_deeds ?hc_deeds ?hk_deeds ?ha_room ?hi_room ?hl_room
      ?hc_room ?hk_room ?ha_fill ?hi_fill ?hl_fill ?hc_fill ?hk_fill ?ha_rake ?hi_rake ?hl_rake ?hc_rake ?hk_rake ?ha_sluice ?hi_sluice ?hl_sluice ?hc_sluice
      ?hk_sluice ?ha_rain ?hi_rain ?hl_rain ?hc_rain ?hk_rain ?ha_weather ?hi_weather ?hl_weather ?hc_weather ?hk_weather ?ha_day ?hi_day ?hl_day ?hc_day ?hk_day
      ?ha_pPour ?hi_pPour ?hl_pPour ?hc_pPour ?hk_pPour ?ha_told ?hi_told ?hl_told ?hc_told ?hk_told ?ha_sums ?hi_sums ?hl_sums ?hc_sums ?hk_sums ?hl_fInit ?hc_fInit
      ?hk_fInit ?ha_look ?hi_look ?hl_look ?hc_look ?hk_look ?ha_keep ?hi_keep ?hl_keep ?hc_keep ?hk_keep ?ha_best ?hl_best ?hc_best ?hk_best ?ha_sunny ?hl_sunny
      ?hc_sunny ?hk_sunny ?hl_xInit ?hc_xInit ?hk_xInit ?hl_lInit ?hc_lInit ?hk_lInit ?ha_lines ?hl_lines ?hc_lines ?hk_lines ?ha_words ?hl_words ?hc_words ?hk_words
      ?ha_isName ?hl_isName ?hc_isName ?hk_isName ?ha_isNumber ?hl_isNumber ?hc_isNumber ?hk_isNumber ?ha_worth ?hl_worth ?hc_worth ?hk_worth ?ha_asTold ?hl_asTold
      ?hc_asTold ?hk_asTold ?ha_tooMany ?hl_tooMany ?hc_tooMany ?hk_tooMany ?ha_inBounds ?hl_inBounds ?hc_inBounds ?hk_inBounds ?ha_lookLine ?hl_lookLine ?hc_lookLine
      ?hk_lookLine ?ha_takeLine ?hl_takeLine ?hc_takeLine ?hk_takeLine ?ha_read ?hl_read ?hc_read ?hk_read ?ha_standing ?hl_standing ?hc_standing ?hk_standing
      ?ha_do_ ?hl_do_ ?hc_do_ ?hk_do_ ?ha_wait ?hl_wait ?hc_wait ?hk_wait ?ha_bestTold ?hl_bestTold ?hc_bestTold ?hk_bestTold ?ha_sun ?hl_sun ?hc_sun ?hk_sun
      ?ha_pour ?hl_pour ?hc_pour ?hk_pour ?ha_ofPan ?hl_ofPan ?hc_ofPan ?hk_ofPan ?ha_ofWorks ?hl_ofWorks ?hc_ofWorks ?hk_ofWorks ?hl_hInit ?hc_hInit ?hk_hInit
      ?ha_hRead ?hi_hRead ?hl_hRead ?hc_hRead ?hk_hRead ?ha_hAnswer ?hi_hAnswer ?hl_hAnswer ?hc_hAnswer ?hk_hAnswer ?ha_answers ?hl_answers ?hc_answers ?hk_answers
      ?hrt ?hk_REST ?hk_FILL ?hk_RAKE ?hk_FIRST_SLUICE ?hk_WATER_FOR_SALT ?hk_MOST_DAYS_looking ?hk_LINE_END ?hk_BLANK ?hk_NOTE ?hk_MOST_PANS ?hk_MOST_DAYS_texts
      ?hk_MOST_LETTERS ?hk_MOST_DIGITS ?hk_NOT_SO ?hk_NO_PAN ?hk_FAULT ?hk_NOT_GONE ?hk_NO_WORKS ?hk_READ ?hk_MOST_WAIT ?hk_MOST_BEST ?hk_MOST_SALT ?hg_PAN ?hl_PAN
      ?hg_DAY ?hl_DAY ?hg_SEA ?hl_SEA ?hg_NUMBERS ?hl_NUMBERS ?hb_min ?hb_len ?hb_range ?hb_list ?hb_sum ?hb_all ?hb_enumerate))
    (case hgPans => k_is)
    (case hpgPans => k_is)
    (case hhdPans => k_is)
    (case hpoPans => k_is)
    (case hsaPans => k_is)
    (case hmkPans => k_is)
    (case hkcPans => k_is)
    (case haiPans => k_is)
    (case hiiPans => k_is)
    (case hnPans_plan => k_is)
    (case hnPans_water => k_is)
    (case hnPans_salt => k_is)
    (case hnPans_store => k_is)
    (case hnPans_away => k_is)
    (case hnPans_drawn => k_is)
    (case hnPans_came => k_is)
    (case hnPans_gone_by => k_is)
    (case hgFinder => k_is)
    (case hpgFinder => k_is)
    (case hhdFinder => k_is)
    (case hpoFinder => k_is)
    (case hsaFinder => k_is)
    (case hmkFinder => k_is)
    (case hkcFinder => k_is)
    (case haiFinder => k_is)
    (case hiiFinder => k_is)
    (case hnFinder_store => k_is)
    (case hnFinder_many => k_is)
    (case hnFinder_row => k_is)
    (case hgPlan => k_is)
    (case hpgPlan => k_is)
    (case hhdPlan => k_is)
    (case hpoPlan => k_is)
    (case hsaPlan => k_is)
    (case hmkPlan => k_is)
    (case hkcPlan => k_is)
    (case haiPlan => k_is)
    (case hiiPlan => k_is)
    (case hnPlan_pans => k_is)
    (case hnPlan_days => k_is)
    (case hnPlan_sea => k_is)
    (case hgHolder => k_is)
    (case hpgHolder => k_is)
    (case hhdHolder => k_is)
    (case hpoHolder => k_is)
    (case hsaHolder => k_is)
    (case hmkHolder => k_is)
    (case hkcHolder => k_is)
    (case haiHolder => k_is)
    (case hiiHolder => k_is)
    (case hnHolder_pans => k_is)
    (case hgFault => k_is)
    (case hxFault => k_is)
    (case hsaFault => k_is)
    (case hgaFault => k_is)
    (case hggFault => k_is)
    (case hnFault => k_is)
    (case haFault => k_is)
    (case htFault => k_is)
    (case hkFault => k_is)
    (case hbFault => k_is)
    (case hyFault => k_is)
    (case hdFault => k_is)
    (case hiFault => k_is)
    (case hsFault => first | rfl | k_is)
    (case ha_melted => k_is)
    (case hl_melted => k_is)
    (case hc_melted => k_is)
    (case hk_melted => k_is)
    (case ha_share => k_is)
    (case hl_share => k_is)
    (case hc_share => k_is)
    (case hk_share => k_is)
    (case hl_pInit => k_is)
    (case hc_pInit => k_is)
    (case hk_pInit => k_is)
    (case ha_copied => k_is)
    (case hi_copied => k_is)
    (case hl_copied => k_is)
    (case hc_copied => k_is)
    (case hk_copied => k_is)
    (case ha_deeds => k_is)
    (case hi_deeds => k_is)
    (case hl_deeds => k_is)
    (case hc_deeds => k_is)
    (case hk_deeds => k_is)
    (case ha_room => k_is)
    (case hi_room => k_is)
    (case hl_room => k_is)
    (case hc_room => k_is)
    (case hk_room => k_is)
    (case ha_fill => k_is)
    (case hi_fill => k_is)
    (case hl_fill => k_is)
    (case hc_fill => k_is)
    (case hk_fill => k_is)
    (case ha_rake => k_is)
    (case hi_rake => k_is)
    (case hl_rake => k_is)
    (case hc_rake => k_is)
    (case hk_rake => k_is)
    (case ha_sluice => k_is)
    (case hi_sluice => k_is)
    (case hl_sluice => k_is)
    (case hc_sluice => k_is)
    (case hk_sluice => k_is)
    (case ha_rain => k_is)
    (case hi_rain => k_is)
    (case hl_rain => k_is)
    (case hc_rain => k_is)
    (case hk_rain => k_is)
    (case ha_weather => k_is)
    (case hi_weather => k_is)
    (case hl_weather => k_is)
    (case hc_weather => k_is)
    (case hk_weather => k_is)
    (case ha_day => k_is)
    (case hi_day => k_is)
    (case hl_day => k_is)
    (case hc_day => k_is)
    (case hk_day => k_is)
    (case ha_pPour => k_is)
    (case hi_pPour => k_is)
    (case hl_pPour => k_is)
    (case hc_pPour => k_is)
    (case hk_pPour => k_is)
    (case ha_told => k_is)
    (case hi_told => k_is)
    (case hl_told => k_is)
    (case hc_told => k_is)
    (case hk_told => k_is)
    (case ha_sums => k_is)
    (case hi_sums => k_is)
    (case hl_sums => k_is)
    (case hc_sums => k_is)
    (case hk_sums => k_is)
    (case hl_fInit => k_is)
    (case hc_fInit => k_is)
    (case hk_fInit => k_is)
    (case ha_look => k_is)
    (case hi_look => k_is)
    (case hl_look => k_is)
    (case hc_look => k_is)
    (case hk_look => k_is)
    (case ha_keep => k_is)
    (case hi_keep => k_is)
    (case hl_keep => k_is)
    (case hc_keep => k_is)
    (case hk_keep => k_is)
    (case ha_best => k_is)
    (case hl_best => k_is)
    (case hc_best => k_is)
    (case hk_best => k_is)
    (case ha_sunny => k_is)
    (case hl_sunny => k_is)
    (case hc_sunny => k_is)
    (case hk_sunny => k_is)
    (case hl_xInit => k_is)
    (case hc_xInit => k_is)
    (case hk_xInit => k_is)
    (case hl_lInit => k_is)
    (case hc_lInit => k_is)
    (case hk_lInit => k_is)
    (case ha_lines => k_is)
    (case hl_lines => k_is)
    (case hc_lines => k_is)
    (case hk_lines => k_is)
    (case ha_words => k_is)
    (case hl_words => k_is)
    (case hc_words => k_is)
    (case hk_words => k_is)
    (case ha_isName => k_is)
    (case hl_isName => k_is)
    (case hc_isName => k_is)
    (case hk_isName => k_is)
    (case ha_isNumber => k_is)
    (case hl_isNumber => k_is)
    (case hc_isNumber => k_is)
    (case hk_isNumber => k_is)
    (case ha_worth => k_is)
    (case hl_worth => k_is)
    (case hc_worth => k_is)
    (case hk_worth => k_is)
    (case ha_asTold => k_is)
    (case hl_asTold => k_is)
    (case hc_asTold => k_is)
    (case hk_asTold => k_is)
    (case ha_tooMany => k_is)
    (case hl_tooMany => k_is)
    (case hc_tooMany => k_is)
    (case hk_tooMany => k_is)
    (case ha_inBounds => k_is)
    (case hl_inBounds => k_is)
    (case hc_inBounds => k_is)
    (case hk_inBounds => k_is)
    (case ha_lookLine => k_is)
    (case hl_lookLine => k_is)
    (case hc_lookLine => k_is)
    (case hk_lookLine => k_is)
    (case ha_takeLine => k_is)
    (case hl_takeLine => k_is)
    (case hc_takeLine => k_is)
    (case hk_takeLine => k_is)
    (case ha_read => k_is)
    (case hl_read => k_is)
    (case hc_read => k_is)
    (case hk_read => k_is)
    (case ha_standing => k_is)
    (case hl_standing => k_is)
    (case hc_standing => k_is)
    (case hk_standing => k_is)
    (case ha_do_ => k_is)
    (case hl_do_ => k_is)
    (case hc_do_ => k_is)
    (case hk_do_ => k_is)
    (case ha_wait => k_is)
    (case hl_wait => k_is)
    (case hc_wait => k_is)
    (case hk_wait => k_is)
    (case ha_bestTold => k_is)
    (case hl_bestTold => k_is)
    (case hc_bestTold => k_is)
    (case hk_bestTold => k_is)
    (case ha_sun => k_is)
    (case hl_sun => k_is)
    (case hc_sun => k_is)
    (case hk_sun => k_is)
    (case ha_pour => k_is)
    (case hl_pour => k_is)
    (case hc_pour => k_is)
    (case hk_pour => k_is)
    (case ha_ofPan => k_is)
    (case hl_ofPan => k_is)
    (case hc_ofPan => k_is)
    (case hk_ofPan => k_is)
    (case ha_ofWorks => k_is)
    (case hl_ofWorks => k_is)
    (case hc_ofWorks => k_is)
    (case hk_ofWorks => k_is)
    (case hl_hInit => k_is)
    (case hc_hInit => k_is)
    (case hk_hInit => k_is)
    (case ha_hRead => k_is)
    (case hi_hRead => k_is)
    (case hl_hRead => k_is)
    (case hc_hRead => k_is)
    (case hk_hRead => k_is)
    (case ha_hAnswer => k_is)
    (case hi_hAnswer => k_is)
    (case hl_hAnswer => k_is)
    (case hc_hAnswer => k_is)
    (case hk_hAnswer => k_is)
    (case ha_answers => k_is)
    (case hl_answers => k_is)
    (case hc_answers => k_is)
    (case hk_answers => k_is)
    (case hrt => k_is)
    (case hk_REST => k_is)
    (case hk_FILL => k_is)
    (case hk_RAKE => k_is)
    (case hk_FIRST_SLUICE => k_is)
    (case hk_WATER_FOR_SALT => k_is)
    (case hk_MOST_DAYS_looking => k_is)
    (case hk_LINE_END => k_is)
    (case hk_BLANK => k_is)
    (case hk_NOTE => k_is)
    (case hk_MOST_PANS => k_is)
    (case hk_MOST_DAYS_texts => k_is)
    (case hk_MOST_LETTERS => k_is)
    (case hk_MOST_DIGITS => k_is)
    (case hk_NOT_SO => k_is)
    (case hk_NO_PAN => k_is)
    (case hk_FAULT => k_is)
    (case hk_NOT_GONE => k_is)
    (case hk_NO_WORKS => k_is)
    (case hk_READ => k_is)
    (case hk_MOST_WAIT => k_is)
    (case hk_MOST_BEST => k_is)
    (case hk_MOST_SALT => k_is)
    (case hg_PAN => k_is)
    (case hl_PAN => k_is)
    (case hg_DAY => k_is)
    (case hl_DAY => k_is)
    (case hg_SEA => k_is)
    (case hl_SEA => k_is)
    (case hg_NUMBERS => k_is)
    (case hl_NUMBERS => k_is)
    (case hb_min => k_is)
    (case hb_len => k_is)
    (case hb_range => k_is)
    (case hb_list => k_is)
    (case hb_sum => k_is)
    (case hb_all => k_is)
    (case hb_enumerate => k_is)
  case S =>
    intro K H xs a hO hwi hask hx
    cases hx with
    | cons h1 h2 =>
      cases h2
      cases h1 with
      | lst hs ha =>
        have e := L2.ints_dw a.1 _ ha
        subst e
        have q : ((Codec.inLen 0 60000 a.1 && a.1.all (Codec.inInt 0 20000)) && true) = true := hwi
        rw [Bool.and_eq_true, Bool.and_eq_true] at q
        exact ⟨_, a.1, rfl, hs, hask, (Codec.inNat_iff.mp q.1.1).2, fun H' p hp => .lst (L2.SqL.of hp) (L2.dw_ints _)⟩
#print axioms PySem.Challenge.cw_saltpans_s01_answers_holds
