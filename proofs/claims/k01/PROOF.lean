import PyProof.Rows.All
import Wide.All
import OpenK.AllK
import Wide.FinOn
import HandS.ForMost
import HandS.StrMore
import PyProof.StrLawsLast
import PyProof.StrLawsFirst
import PyProof.StrLawsTight
import KE.IntTextLaws
import KE.KIsAll
import KE.KExcIs
import HandS.Exc
import HandS.ExcOwn
import HandS.WordsExc
import HandS.ExcInit
import HandS.ExcField
import HandS.ExcIs
import HandS.IsInst
import HandS.ClsMeth
import HandS.CallSlots
import HandS.Walk
import PySem.Challenge.RW_tapline_k01_scripts_with_a_bad_place
set_option Elab.async false
set_option linter.all false
set_option maxRecDepth 100000
set_option maxHeartbeats 8000000
/-! k01, part 1: the mirror of the tokens over lists of code points, in plain Lean. -/
namespace K01
open PySem
open TL (tl len_tl ext_tl tl_append)

/-! ### signs -/
def LETS : List Nat := [97, 98, 99, 100, 101, 102, 103, 104, 105, 106, 107, 108, 109, 110, 111, 112, 113, 114, 115, 116, 117, 118, 119, 120, 121, 122, 65, 66, 67, 68, 69, 70, 71, 72, 73, 74, 75, 76, 77, 78, 79, 80, 81, 82, 83, 84, 85, 86, 87, 88, 89, 90]
def DIGS : List Nat := [48, 49, 50, 51, 52, 53, 54, 55, 56, 57]
def SHRT : List Nat := [123, 125, 40, 41, 91, 93, 44, 59, 58, 46, 64, 63, 61, 33, 43, 45, 42, 47, 60, 62]
def LONG : List (List Nat) := [[60, 61], [62, 61], [61, 61], [33, 61], [38, 38], [124, 124]]
def isLet (c : Nat) : Bool := decide (c ∈ LETS)
def isDig (c : Nat) : Bool := decide (c ∈ DIGS)
def isWrd (c : Nat) : Bool := isLet c || (isDig c || decide (c = 95))
def isSg (c : Nat) : Bool := decide (32 ≤ c) && (decide (c ≤ 126) && (decide (c ≠ 37) && decide (c ≠ 92)))

/-! ### what a token is -/
inductive Bad | chr | num | quo
  deriving DecidableEq
def isNum (w : List Nat) : Bool :=
  if 19 < w.length ∨ (w[0]? = some 48 ∧ 1 < w.length) then false
  else if w.all isDig = true then decide (NumText.digitsVal w ≤ 9223372036854775807) else false
/-- the place of the closing mark -/
def quo : List Nat → Option Nat
  | [] => none
  | c :: r => if c = 34 then some 0 else if isSg c = true then (quo r).map (· + 1) else none
/-- the token at the head of a text: its length, or what is wrong -/
def tokLen : List Nat → Except Bad Nat
  | [] => .error .chr
  | c :: r =>
    if isLet c = true ∨ isDig c = true then
      (if isDig c = true ∧ isNum ((c :: r).takeWhile isWrd) = false then .error .num else .ok ((c :: r).takeWhile isWrd).length)
    else if c = 34 then
      (match quo r with
        | some k => if 32 < k then .error .quo else .ok (k + 2)
        | none => .error .quo)
    else if (c :: r).take 2 ∈ LONG then .ok 2
    else if c ∈ SHRT then .ok 1
    else .error .chr

/-! ### the walk over a text -/
inductive Res | ok (n : Nat) | bad (b : Bad) (row col : Nat)
/-- from the rest of a text, at this row and column, with so many tokens found: how it ends -/
inductive Scan : List Nat → Nat → Nat → Nat → Res → Prop
  | done {row col n : Nat} : Scan [] row col n (.ok (n + 1))
  | nl {r : List Nat} {row col n : Nat} {e : Res} (h : Scan r (row + 1) 1 n e) : Scan (10 :: r) row col n e
  | sp {r : List Nat} {row col n : Nat} {e : Res} (h : Scan r row (col + 1) n e) : Scan (32 :: r) row col n e
  | cm {r : List Nat} {row col n : Nat} {e : Res} (h : Scan (r.dropWhile (· != 10)) row (col + 1 + (r.takeWhile (· != 10)).length) n e) : Scan (35 :: r) row col n e
  | tk {c : Nat} {r : List Nat} {k row col n : Nat} {e : Res} (h1 : c ≠ 10) (h2 : c ≠ 32) (h3 : c ≠ 35) (hk : tokLen (c :: r) = .ok k) (h : Scan ((c :: r).drop k) row (col + k) (n + 1) e) : Scan (c :: r) row col n e
  | er {c : Nat} {r : List Nat} {b : Bad} {row col n : Nat} (h1 : c ≠ 10) (h2 : c ≠ 32) (h3 : c ≠ 35) (hb : tokLen (c :: r) = .error b) : Scan (c :: r) row col n (.bad b row col)

theorem tokLen_word {c : Nat} {r : List Nat} (h : isLet c = true ∨ isDig c = true) :
    tokLen (c :: r) = if isDig c = true ∧ isNum ((c :: r).takeWhile isWrd) = false then .error .num else .ok ((c :: r).takeWhile isWrd).length := if_pos h
theorem tokLen_quo {c : Nat} {r : List Nat} (h : ¬ (isLet c = true ∨ isDig c = true)) (h2 : c = 34) :
    tokLen (c :: r) = match quo r with | some k => if 32 < k then .error .quo else .ok (k + 2) | none => .error .quo := (if_neg h).trans (if_pos h2)
theorem tokLen_long {c : Nat} {r : List Nat} (h : ¬ (isLet c = true ∨ isDig c = true)) (h2 : ¬ c = 34) (h3 : (c :: r).take 2 ∈ LONG) : tokLen (c :: r) = .ok 2 := (if_neg h).trans ((if_neg h2).trans (if_pos h3))
theorem tokLen_short {c : Nat} {r : List Nat} (h : ¬ (isLet c = true ∨ isDig c = true)) (h2 : ¬ c = 34) (h3 : ¬ (c :: r).take 2 ∈ LONG) : tokLen (c :: r) = if c ∈ SHRT then .ok 1 else .error .chr := (if_neg h).trans ((if_neg h2).trans (if_neg h3))
theorem wrd_of {c : Nat} (h : isLet c = true ∨ isDig c = true) : isWrd c = true := by
  unfold isWrd
  rcases h with h | h
  · rw [h, Bool.true_or]
  · rw [h, Bool.true_or, Bool.or_true]
theorem tokLen_pos {D : List Nat} {k : Nat} (h : tokLen D = .ok k) : 1 ≤ k := by
  cases D with
  | nil => exact nomatch h
  | cons c r =>
    by_cases hw : isLet c = true ∨ isDig c = true
    · rw [tokLen_word hw] at h
      by_cases hn : isDig c = true ∧ isNum ((c :: r).takeWhile isWrd) = false
      · rw [if_pos hn] at h
        exact nomatch h
      · rw [if_neg hn, List.takeWhile_cons, wrd_of hw] at h
        have e : (r.takeWhile isWrd).length + 1 = k := Except.ok.inj h
        omega
    · by_cases hq : c = 34
      · rw [tokLen_quo hw hq] at h
        cases e : quo r with
        | none =>
          rw [e] at h
          exact nomatch h
        | some m =>
          rw [e] at h
          have h' : (if 32 < m then Except.error Bad.quo else Except.ok (m + 2)) = Except.ok k := h
          by_cases hm : 32 < m
          · rw [if_pos hm] at h'
            exact nomatch h'
          · rw [if_neg hm] at h'
            have e2 : m + 2 = k := Except.ok.inj h'
            omega
      · by_cases hl : (c :: r).take 2 ∈ LONG
        · rw [tokLen_long hw hq hl] at h
          have e : 2 = k := Except.ok.inj h
          omega
        · rw [tokLen_short hw hq hl] at h
          by_cases hs : c ∈ SHRT
          · rw [if_pos hs] at h
            have e : 1 = k := Except.ok.inj h
            omega
          · rw [if_neg hs] at h
            exact nomatch h

/-! ### places -/
def adv : Nat × Nat → List Nat → Nat × Nat
  | p, [] => p
  | p, c :: r => adv (if c = 10 then (p.1 + 1, 1) else (p.1, p.2 + 1)) r
theorem adv_append : ∀ (l m : List Nat) (p : Nat × Nat), adv p (l ++ m) = adv (adv p l) m
  | [], _, _ => rfl
  | c :: r, m, p => adv_append r m _
theorem adv_row : ∀ (l : List Nat) (p : Nat × Nat), (adv p l).1 = p.1 + l.count 10
  | [], _ => rfl
  | c :: r, p => by
    unfold adv
    rw [adv_row r, List.count_cons]
    by_cases h : c = 10
    · rw [if_pos h, if_pos (by rw [h]; rfl)]
      show p.1 + 1 + _ = _
      omega
    · rw [if_neg h, if_neg (by simpa using h)]
      omega
theorem adv_flat : ∀ (l : List Nat) (p : Nat × Nat), 10 ∉ l → adv p l = (p.1, p.2 + l.length)
  | [], _, _ => rfl
  | c :: r, p, h => by
    have h1 : ¬ c = 10 := fun e => h (by rw [e]; exact List.mem_cons_self)
    have h2 : 10 ∉ r := fun e => h (List.mem_cons_of_mem _ e)
    unfold adv
    rw [if_neg h1, adv_flat r _ h2]
    show (p.1, p.2 + 1 + r.length) = (p.1, p.2 + (r.length + 1))
    rw [Nat.add_assoc, Nat.add_comm 1]
theorem adv_col_pos : ∀ (l : List Nat) (p : Nat × Nat), 1 ≤ p.2 → 1 ≤ (adv p l).2
  | [], _, h => h
  | c :: r, p, h => by
    unfold adv
    by_cases h1 : c = 10
    · rw [if_pos h1]
      exact adv_col_pos r _ (Nat.le_refl 1)
    · rw [if_neg h1]
      exact adv_col_pos r _ (Nat.le_succ_of_le h)

/-! ### lists -/
theorem take_tw (p : Nat → Bool) : ∀ l : List Nat, l.take (l.takeWhile p).length = l.takeWhile p
  | [] => rfl
  | c :: r => by
    rw [List.takeWhile_cons]
    cases p c with
    | true =>
      show (c :: r).take ((r.takeWhile p).length + 1) = c :: r.takeWhile p
      rw [List.take_succ_cons, take_tw p r]
    | false => rfl
theorem drop_tw (p : Nat → Bool) : ∀ l : List Nat, l.drop (l.takeWhile p).length = l.dropWhile p
  | [] => rfl
  | c :: r => by
    rw [List.takeWhile_cons, List.dropWhile_cons]
    cases p c with
    | true =>
      show (c :: r).drop ((r.takeWhile p).length + 1) = r.dropWhile p
      rw [List.drop_succ_cons, drop_tw p r]
    | false => rfl
theorem tw_len (p : Nat → Bool) (l : List Nat) : (l.takeWhile p).length ≤ l.length := by
  have e := congrArg List.length (take_tw p l)
  rw [List.length_take] at e
  omega
/-- the first place where p does not hold -/
theorem tw_at {p : Nat → Bool} : ∀ {l : List Nat} {m c : Nat}, l[m]? = some c → p c = false → (∀ k d, k < m → l[k]? = some d → p d = true) → (l.takeWhile p).length = m
  | [], m, c, h, _, _ => by simp at h
  | a :: r, 0, c, h, hc, _ => by
    have e : a = c := by simpa using h
    rw [List.takeWhile_cons, e, hc]
    rfl
  | a :: r, m + 1, c, h, hc, hk => by
    have h0 := hk 0 a (Nat.succ_pos m) rfl
    have ih := tw_at (l := r) (m := m) (c := c) (p := p) (by simpa using h) hc fun k d hlt hd => hk (k + 1) d (Nat.succ_lt_succ hlt) (by simpa using hd)
    rw [List.takeWhile_cons, h0]
    show (r.takeWhile p).length + 1 = m + 1
    rw [ih]
theorem tw_all {p : Nat → Bool} : ∀ {l : List Nat}, (∀ (k d : Nat), l[k]? = some d → p d = true) → (l.takeWhile p).length = l.length
  | [], _ => rfl
  | a :: r, hk => by
    have ih := tw_all (l := r) (p := p) fun k d hd => hk (k + 1) d (by simpa using hd)
    rw [List.takeWhile_cons, hk 0 a rfl]
    show (r.takeWhile p).length + 1 = r.length + 1
    rw [ih]

/-! ### the newline in a text -/
abbrev NL : Str := ⟨#[10]⟩
section
open Builtin Builtin.Str StrLaws
theorem at_nl (x : Str) (i : Nat) : At x NL x.length i ↔ (tl x)[i]? = some 10 := subAt_one x 10 i
theorem fromIndex_nat {n i : Nat} (h : i ≤ n) : fromIndex n (i : Int) = i := by
  unfold fromIndex
  rw [if_neg (by omega)]
  omega
/-- find("\n", i) -/
theorem find_nl (x : Str) (i : Nat) (hi : i ≤ x.length) :
    (Txt.find3 x NL (i : Int) = -1 ∧ i + (((tl x).drop i).takeWhile (· != 10)).length = x.length) ∨ Txt.find3 x NL (i : Int) = ((i + (((tl x).drop i).takeWhile (· != 10)).length : Nat) : Int) := by
  unfold Txt.find3
  rw [fromIndex_nat hi, occ_eq]
  have hlen : x.length = (tl x).length := len_tl x
  have bnd : ∀ k, i ≤ k → (At x NL x.length k → k ∈ List.range' i (x.length + 1 - i)) := fun k hk hA => by
    have := hA.1
    rw [List.mem_range'_1]
    omega
  rcases occ_first x NL x.length 1 (Nat.le_refl 1) (List.range' i (x.length + 1 - i)) i (fun k hk => (List.mem_range'_1.mp hk).1) with ⟨h0, hn⟩ | ⟨pre, a, post, e, h0, ha, hn⟩
  · left
    rw [h0]
    refine ⟨rfl, ?_⟩
    rw [tw_all]
    · rw [List.length_drop]
      omega
    · intro k d hd
      rw [List.getElem?_drop] at hd
      by_cases h10 : d = 10
      · subst h10
        have hA := (at_nl x (i + k)).mpr hd
        exact absurd hA (hn _ (bnd _ (Nat.le_add_right i k) hA))
      · simpa using h10
  · right
    have hmem : a ∈ List.range' i (x.length + 1 - i) := by rw [e]; simp
    have hia : i ≤ a := (List.mem_range'_1.mp hmem).1
    have hpre : ∀ k, i ≤ k → k < a → k ∈ pre := fun k h1 h2 => by
      have hs : (List.range' i (x.length + 1 - i)).Pairwise (· < ·) := List.pairwise_lt_range'
      have hk : k ∈ List.range' i (x.length + 1 - i) := List.mem_range'_1.mpr ⟨h1, by have := (List.mem_range'_1.mp hmem).2; omega⟩
      rw [e] at hk hs
      rcases List.mem_append.mp hk with hk | hk
      · exact hk
      · rcases List.mem_cons.mp hk with hk | hk
        · omega
        · have := (List.pairwise_cons.mp (List.pairwise_append.mp hs).2.1).1 k hk
          omega
    have hm : (((tl x).drop i).takeWhile (· != 10)).length = a - i := by
      refine tw_at (c := 10) ?_ rfl ?_
      · rw [List.getElem?_drop, show i + (a - i) = a by omega]
        exact (at_nl x a).mp ha
      · intro k d hk hd
        rw [List.getElem?_drop] at hd
        by_cases h10 : d = 10
        · subst h10
          exact absurd ((at_nl x (i + k)).mpr hd) (hn _ (hpre _ (Nat.le_add_right i k) (by omega)))
        · simpa using h10
    rw [hm, show i + (a - i) = a by omega]
    generalize (forIn (List.range' i (x.length + 1 - i)) ((#[] : Array Nat), i) (occBody x NL x.length 1)).run.fst = arr at h0
    have h1 : arr.toList[0]? = some a := by simpa using h0
    cases hL : arr.toList with
    | nil => rw [hL] at h1; cases h1
    | cons b t =>
      rw [hL] at h1
      have h2 : b = a := by simpa using h1
      rw [h2]
theorem count_none {l : List Nat} (h : ∀ k : Nat, l[k]? ≠ some 10) : l.count 10 = 0 := by
  refine List.count_eq_zero.mpr fun hm => ?_
  obtain ⟨k, hk⟩ := List.getElem?_of_mem hm
  exact h k hk
theorem count_chain (x : Str) : ∀ (cuts : List Nat) (a f : Nat), ChainG x NL x.length a cuts f → (∀ k, f ≤ k → ¬ At x NL x.length k) → ((tl x).drop a).count 10 = cuts.length
  | [], a, f, h, hn => by
    have e : f = a := h
    subst e
    refine count_none fun k hk => ?_
    rw [List.getElem?_drop] at hk
    exact hn _ (Nat.le_add_right f k) ((at_nl x _).mpr hk)
  | c :: r, a, f, ⟨hac, hA, hno, h⟩, hn => by
    have ih := count_chain x r (c + 1) f h hn
    have hc := (at_nl x c).mp hA
    have e : (tl x).drop a = ((tl x).drop a).take (c - a) ++ (tl x).drop c := by
      have := (List.take_append_drop (c - a) ((tl x).drop a)).symm
      rw [List.drop_drop, show a + (c - a) = c by omega] at this
      exact this
    have e2 : (tl x).drop c = 10 :: (tl x).drop (c + 1) := by
      obtain ⟨hlt, hg⟩ := List.getElem?_eq_some_iff.mp hc
      rw [List.drop_eq_getElem_cons hlt, hg]
    have z : (((tl x).drop a).take (c - a)).count 10 = 0 := by
      refine count_none fun k hk => ?_
      have hlt : k < c - a := by
        have h1 := (List.getElem?_eq_some_iff.mp hk).1
        rw [List.length_take] at h1
        omega
      rw [List.getElem?_take_of_lt hlt, List.getElem?_drop] at hk
      exact hno (a + k) (Nat.le_add_right a k) (by omega) ((at_nl x _).mpr hk)
    rw [e, List.count_append, z, e2, List.count_cons, ih]
    simp
/-- count("\n") -/
theorem count_nl (x : Str) : Txt.count x NL = (((tl x).count 10 : Nat) : Int) := by
  unfold Txt.count
  obtain ⟨f, h, hn⟩ := occ_tight x NL (Nat.le_refl 1)
  have e := count_chain x _ 0 f h hn
  rw [List.drop_zero] at e
  rw [e]
/-- the column behind a text -/
theorem rfind_nl (x : Str) : (((adv (1, 1) (tl x)).2 : Nat) : Int) = (x.length : Int) - Txt.rfind x NL := by
  unfold Txt.rfind
  have hlen : x.length = (tl x).length := len_tl x
  rcases last_spec x NL with ⟨h0, hn⟩ | ⟨i, h0, hA, hn⟩
  · rw [h0]
    rw [adv_flat _ _ (fun hm => by
      obtain ⟨k, hk⟩ := List.getElem?_of_mem hm
      exact hn k ((at_nl x k).mpr hk))]
    show ((1 + (tl x).length : Nat) : Int) = _ - (-1)
    omega
  · rw [h0]
    have hc := (at_nl x i).mp hA
    obtain ⟨hlt, hg⟩ := List.getElem?_eq_some_iff.mp hc
    have e2 : tl x = (tl x).take i ++ 10 :: (tl x).drop (i + 1) := by
      have h1 := (List.take_append_drop i (tl x)).symm
      rw [List.drop_eq_getElem_cons hlt, hg] at h1
      exact h1
    have e3 : (adv (1, 1) (tl x)).2 = 1 + ((tl x).drop (i + 1)).length := by
      rw [e2, adv_append]
      show (adv (if (10 : Nat) = 10 then ((adv (1, 1) ((tl x).take i)).1 + 1, 1) else _) ((tl x).drop (i + 1))).2 = _
      rw [if_pos rfl, adv_flat _ _ (fun hm => by
        obtain ⟨k, hk⟩ := List.getElem?_of_mem hm
        rw [List.getElem?_drop] at hk
        exact hn (i + 1 + k) (by omega) ((at_nl x _).mpr hk))]
      rw [← e2]
    rw [e3, List.length_drop]
    show _ = _ - (i : Int)
    omega
end

/-! ### numbers -/
theorem digs_all {w : List Nat} (h : w.all isDig = true) : NumText.AllDigits w := fun c hc => by
  have h1 : c ∈ DIGS := of_decide_eq_true (List.all_eq_true.mp h c hc)
  simp only [DIGS, List.mem_cons, List.not_mem_nil, or_false] at h1
  omega
theorem int_word {x : Str} (h : (tl x).all isDig = true) (h1 : tl x ≠ []) (h2 : x.length ≤ 19) : PySem.intText? x = some ((NumText.digitsVal (tl x) : Nat) : Int) :=
  intText_digits (digs_all h) h1 (by omega)
end K01
/-! k01, part 2: the words that the law writes, and how the mirror reads them. -/
namespace K01
open PySem
open TL (tl len_tl ext_tl tl_append)

def GOOD : List (List Nat) := [[97], [103, 111, 95], [34, 120, 32, 121, 34], [49, 48], [112, 114, 111, 98, 101], [105, 110, 116], [38, 38], [60, 61], [46], [40], [125], [44], [120, 95, 49], [57, 50, 50, 51, 51, 55, 50, 48, 51, 54, 56, 53, 52, 55, 55, 53, 56, 48, 55], [48], [34, 34]]
def SEPS : List (List Nat) := [[32], [10], [32, 32], [10, 32, 35, 32, 95, 32, 48, 49, 32, 34, 32, 33, 10], [32, 35, 10, 32, 32]]
def BCHR : List (List Nat) := [[95], [39], [36], [94], [126], [124], [38], [38, 43], [124, 120], [95, 97], [9], [9, 97], [36, 120]]
def BNUM : List (List Nat) := [[48, 49], [48, 48], [49, 97], [50, 95], [51, 95, 52], [57, 50, 50, 51, 51, 55, 50, 48, 51, 54, 56, 53, 52, 55, 55, 53, 56, 48, 56], [57, 57, 57, 57, 57, 57, 57, 57, 57, 57, 57, 57, 57, 57, 57, 57, 57, 57, 57, 57], [48, 120], [55, 65], [49, 48, 105, 110, 116]]
def BQUO : List (List Nat) := [[34, 97, 10, 98, 34], [34, 97, 97, 97, 97, 97, 97, 97, 97, 97, 97, 97, 97, 97, 97, 97, 97, 97, 97, 97, 97, 97, 97, 97, 97, 97, 97, 97, 97, 97, 97, 97, 97, 97, 34], [34, 120, 9, 34], [34, 9, 121, 34], [34, 10, 34]]
def BOPN : List (List Nat) := [[34], [34, 97, 98, 99]]
/-- what a token's word may be followed by -/
def Stop (r : List Nat) : Prop := r = [] ∨ (∃ s, r = 10 :: s) ∨ ∃ s, r = 32 :: s
def Plain (w : List Nat) : Prop := ∃ c r, w = c :: r ∧ c ≠ 10 ∧ c ≠ 32 ∧ c ≠ 35

theorem all_of {P : List Nat → Prop} : ∀ {l : List (List Nat)}, l.foldr (fun w q => P w ∧ q) True → ∀ w ∈ l, P w
  | [], _, w, hw => absurd hw List.not_mem_nil
  | a :: l, h, w, hw => by
    rcases List.mem_cons.mp hw with e | hw
    · rw [e]
      exact h.1
    · exact all_of (l := l) h.2 w hw

theorem good_ok : ∀ w ∈ GOOD, ((∀ r, tokLen (w ++ 10 :: r) = .ok w.length ∧ tokLen (w ++ 32 :: r) = .ok w.length) ∧ Plain w ∧ 10 ∉ w ∧ w.length ≤ 19) :=
  all_of (by
    refine ⟨?_, ?_, ?_, ?_, ?_, ?_, ?_, ?_, ?_, ?_, ?_, ?_, ?_, ?_, ?_, ?_, trivial⟩
    all_goals exact ⟨fun r => ⟨rfl, rfl⟩, ⟨_, _, rfl, by decide, by decide, by decide⟩, by decide, by decide⟩)
theorem chr_bad : ∀ w ∈ BCHR, (∀ r, Stop r → tokLen (w ++ r) = .error .chr) ∧ Plain w ∧ w.length ≤ 35 :=
  all_of (by
    refine ⟨?_, ?_, ?_, ?_, ?_, ?_, ?_, ?_, ?_, ?_, ?_, ?_, ?_, trivial⟩
    all_goals
      refine ⟨fun r h => ?_, ⟨_, _, rfl, by decide, by decide, by decide⟩, by decide⟩
      rcases h with rfl | ⟨s, rfl⟩ | ⟨s, rfl⟩
      all_goals rfl)
theorem num_bad : ∀ w ∈ BNUM, (∀ r, Stop r → tokLen (w ++ r) = .error .num) ∧ Plain w ∧ w.length ≤ 35 :=
  all_of (by
    refine ⟨?_, ?_, ?_, ?_, ?_, ?_, ?_, ?_, ?_, ?_, trivial⟩
    all_goals
      refine ⟨fun r h => ?_, ⟨_, _, rfl, by decide, by decide, by decide⟩, by decide⟩
      rcases h with rfl | ⟨s, rfl⟩ | ⟨s, rfl⟩
      all_goals rfl)
theorem quo_bad : ∀ w ∈ BQUO, (∀ r, tokLen (w ++ r) = .error .quo) ∧ Plain w ∧ w.length ≤ 35 :=
  all_of (by
    refine ⟨?_, ?_, ?_, ?_, ?_, trivial⟩
    all_goals exact ⟨fun r => rfl, ⟨_, _, rfl, by decide, by decide, by decide⟩, by decide⟩)
theorem opn_bad : ∀ w ∈ BOPN, tokLen (w ++ [10]) = .error .quo ∧ Plain w ∧ w.length ≤ 35 :=
  all_of (by
    refine ⟨?_, ?_, trivial⟩
    all_goals exact ⟨rfl, ⟨_, _, rfl, by decide, by decide, by decide⟩, by decide⟩)

theorem sep_ok : ∀ s ∈ SEPS, (∀ (p : Nat × Nat) (n : Nat) (r : List Nat) (e : Res), Scan r (adv p s).1 (adv p s).2 n e → Scan (s ++ r) p.1 p.2 n e) ∧ ((∃ t, s = 10 :: t) ∨ ∃ t, s = 32 :: t) ∧ s.length ≤ 13 :=
  all_of (by
    refine ⟨⟨fun p n r e h => ?_, .inr ⟨_, rfl⟩, by decide⟩, ⟨fun p n r e h => ?_, .inl ⟨_, rfl⟩, by decide⟩, ⟨fun p n r e h => ?_, .inr ⟨_, rfl⟩, by decide⟩, ⟨fun p n r e h => ?_, .inl ⟨_, rfl⟩, by decide⟩, ⟨fun p n r e h => ?_, .inr ⟨_, rfl⟩, by decide⟩, trivial⟩
    · exact Scan.sp h
    · exact Scan.nl h
    · exact Scan.sp (Scan.sp h)
    · exact Scan.nl (Scan.sp (Scan.cm (Scan.nl h)))
    · exact Scan.sp (Scan.cm (Scan.nl (Scan.sp (Scan.sp h)))))

/-- reading T from the beginning leaves n tokens found, and goes on behind it -/
def Pre (T : List Nat) (n : Nat) : Prop := ∀ (r : List Nat) (e : Res), Scan r (adv (1, 1) T).1 (adv (1, 1) T).2 n e → Scan (T ++ r) 1 1 0 e
theorem pre_nil : Pre [] 0 := fun _ _ h => h
theorem pre_more {T w s : List Nat} {n : Nat} (h : Pre T n) (hw : w ∈ GOOD) (hs : s ∈ SEPS) : Pre (T ++ w ++ s) (n + 1) := fun r e q => by
  obtain ⟨hk, ⟨c, w', ew, h1, h2, h3⟩, hn, _⟩ := good_ok w hw
  obtain ⟨hS, hh, _⟩ := sep_ok s hs
  rw [List.append_assoc, List.append_assoc]
  refine h _ e ?_
  have q1 : Scan (s ++ r) (adv (adv (1, 1) T) w).1 (adv (adv (1, 1) T) w).2 (n + 1) e := hS _ _ _ _ (by
    rw [adv_append, adv_append] at q
    exact q)
  rw [adv_flat w _ hn] at q1
  have hk2 : tokLen (w ++ (s ++ r)) = .ok w.length := by
    rcases hh with ⟨t, rfl⟩ | ⟨t, rfl⟩
    · exact (hk (t ++ r)).1
    · exact (hk (t ++ r)).2
  subst ew
  refine Scan.tk h1 h2 h3 hk2 ?_
  have ed : (c :: w' ++ (s ++ r)).drop (c :: w').length = s ++ r := List.drop_left
  show Scan ((c :: w' ++ (s ++ r)).drop (c :: w').length) _ _ _ _
  rw [ed]
  exact q1
theorem pre_end {T : List Nat} {n : Nat} (h : Pre T n) : Scan T 1 1 0 (.ok (n + 1)) := by
  have q := h [] _ Scan.done
  rw [List.append_nil] at q
  exact q
theorem pre_bad {T w r : List Nat} {n : Nat} {b : Bad} (h : Pre T n) (hw : Plain w) (hb : tokLen (w ++ r) = .error b) : Scan (T ++ w ++ r) 1 1 0 (.bad b (adv (1, 1) T).1 (adv (1, 1) T).2) := by
  obtain ⟨c, w', ew, h1, h2, h3⟩ := hw
  subst ew
  rw [List.append_assoc]
  exact h _ _ (Scan.er h1 h2 h3 hb)
end K01
/-! k01, part 3: rules of its own: a text times a number; a base class's __init__ called by its name; several clauses «except X as e»; isinstance of a caught error that has a dict. -/
namespace K01
open PySem PySem.Spec PyProof.Rows L2

/-! ### text * number -/
theorem op_mulS {X : Cx} : OpR X (binaryOp .Mult) (fun x y H Q => ∃ (z : Str) (n : Int), x = .str z ∧ y = .int n ∧ MulOk z n ∧ Q (.str (Txt.mul z n)) H) := by
  intro pins s σ H x y v u Q I rx ry ⟨z, n, ex, ey, ok, q⟩
  subst ex ey
  obtain ⟨t1, rfl⟩ := rx
  obtain ⟨t2, rfl⟩ := ry
  exact SB.mul ok fun t k => ⟨.str (Txt.mul z n), H, I.tok k, ⟨t, rfl⟩, q⟩

/-! ### Base.__init__(self, ..), Base a class of the text that leaves __init__ to ValueError -/
structure BaseIni (K : PySem.W.Frag) (mg : Str → Option Value) (nm : Str) (B : Addr) : Prop where
  gB : mg nm = some (.ref B)
  rd : ClX.CRead K B (.type "type")
  ini : PySem.W.findCls K (.ref B) (.type "type") "__init__" = some (.val (.builtin "ValueError.__init__"))
section
variable {X : Cx} {e : Expr} {es : List Expr} {ta : TA} {nm : Str} {B : Addr} {p1 p2 pos : Pos}
theorem pe_binit {pl : Sem Bool} (T : BaseIni X.K X.mg nm B) (hg : Gl X nm) (ha : PA X (e :: es) ta) (hdb : (nm == ("__debug__" : Str)) = false)
    (form : eval (.Call (.Attribute (.Name nm p1) "__init__" p2) (e :: es) [] pos) X.env = (do
      let base ← eval (.Name nm p1) X.env
      standAt p2.atName
      let (fn, head) ← holding [base] (getMethod base "__init__" pl)
      callWith pos fn head (backTo pos (starEach (e :: es) X.env)) (backToKw pos (keywordEach [] X.env))) := by rfl)
    (h1 : starEach (e :: es) X.env = (false, eval e X.env) :: starEach es X.env := by rfl) (h2 : (backTo pos (starEach es X.env)).any (·.1) = false := by rfl) :
    PE X (.Call (.Attribute (.Name nm p1) "__init__" p2) (e :: es) [] pos) (tVeI X.K ta) := by
  refine ⟨fun pins s σ H Q I want => ?_⟩
  refine PySem.W.methodCall_KW (ld_glob I hg T.gB ?_ hdb) form
  refine PySem.W.method_cls I.kIn T.rd.ga (PySem.W.cls_value I.kIn T.rd.rd T.ini (by decide +kernel) ?_)
  show wpAny _ _ (callWith pos (Value.builtin "ValueError.__init__") [] _ []) _ _ _
  refine PyProof.Rows.callWith_method1 (thn (ha.run pos pins _ σ H _ (I.tok _) want) ?_) h1 h2
  rintro us s1 ⟨vs, H1, I1, rel, a, C, ws, rfl, small, cls, made, go⟩
  cases rel with
  | @cons _ u0 _ ur ra rws =>
    cases (show u0 = Value.ref a from ra)
    refine oinit_ok cls I1 made ?_ fun s2 J => ⟨.non, H1, J, rfl, go⟩
    have z := Paired.length rws
    rw [sizeLine_eq]
    omega
end

/-! ### try: .. except A as n: .. except B as n: .. -/
def endsAs (i : Nat) (D : Ends) : Ends where
  nx := fun σ' H' => D.nx (σ'.set i none) H'
  rt := D.rt
  bk := fun σ' H' => D.bk (σ'.set i none) H'
  ct := fun σ' H' => D.ct (σ'.set i none) H'
abbrev Clause := Value × (Addr → Value → Option Addr → TS)
/-- what the clauses wish of an exception of the body, from the first to the last; slot i is the name's -/
def wClauses (K : PySem.W.Frag) (i : Nat) (out : WX) (D : Ends) : List Clause → WX
  | [] => out
  | q :: more => fun cls d σ H => ∃ b, PySem.W.exmOne K cls q.1 = some b ∧ (b = true → ∀ a, H a = none → q.2 a cls d (endsAs i D) (σ.set i (some (.ref a))) H) ∧ (b = false → wClauses K i out D more cls d σ H)
inductive AsOk (X : Cx) (n : Str) : List ExceptHandler → List Clause → Prop
  | nil : AsOk X n [] []
  | cons {x : Str} {c : Value} {ts : Addr → Value → Option Addr → TS} {st : Stmt} {sts : List Stmt} {p p' : Pos} {hds : List ExceptHandler} {l : List Clause} (named : Names X x c)
      (suite : ∀ (a : Addr) (ob : Obj) (cls : Value) (d : Option Addr) (pn : List (Addr × Obj)), Zc cls d ob → (∃ vs, ob.data = .fields vs) → PSs (X.suite a ((a, ob) :: pn)) (st :: sts) (ts a cls d)) (more : AsOk X n hds l) :
      AsOk X n (.ExceptHandler (some (.Name x p)) (some n) (st :: sts) p' :: hds) ((c, ts) :: l)
section
variable {X : Cx} {n : Str} {i : Nat} {body : List Stmt} {h1 : ExceptHandler} {hds : List ExceptHandler} {l : List Clause} {pos : Pos} {tb : WX → TS} {out : WX}
theorem ps_try_clauses (hs : X.stack = X.env :: X.outer) (hf : X.env.frame = some X.env.locals) (nd : X.N.Nodup) (at_ : X.N[i]? = some n) (own : X.env.kindOf n = some .local) (tk : Takes X out)
    (hb : ∀ (W : WX) (pn : List (Addr × Obj)) (xe : Value → Shared → Prop), Takes (X.tr pn xe) W → PassesOwn (model X.prog X.w) X.A X.env xe → PSs (X.tr pn xe) body (tb W))
    (hh : AsOk X n (h1 :: hds) l) : PS X (.Try body (h1 :: hds) [] [] pos) (fun D σ H => tb (wClauses X.K i out D l) D σ H) := by
  constructor
  intro pins s σ H D I want
  have ok := I.ok
  have frames : X.A.frames = some (X.env :: X.outer) := ok.frames.trans (congrArg some hs)
  refine wpAny_Try_except ?_
  let post : Value → Shared → Prop := fun e s₁ => wpAny (model X.prog X.w) X.A (noteFrame e X.env) (fun _ s₂ => wpAny (model X.prog X.w) X.A (setFlight e none) (fun _ s₃ => wpAny (model X.prog X.w) X.A (handleBy e X.env (h1 :: hds)) (SP X pins D) X.xe s₃) X.xe s₂) X.xe s₁
  have run := (hb (wClauses X.K i out D l) (X.pn ++ pins) post (fun u s' air => ?_) PassesOwn.looking).run [] s σ H D (I.toTry _) want
  · refine wpAny_mono run (fun f s1 ended => ?_) fun _ _ z => z
    cases f with
    | next =>
      obtain ⟨σ', H', J, q⟩ := ended
      exact wpAny_execs_nil ⟨_, _, Inv.ofTry J ok, q⟩
    | brk =>
      obtain ⟨σ', H', J, q⟩ := ended
      exact ⟨_, _, Inv.ofTry J ok, q⟩
    | cont =>
      obtain ⟨σ', H', J, q⟩ := ended
      exact ⟨_, _, Inv.ofTry J ok, q⟩
    | ret u =>
      obtain ⟨v, σ', H', J, r, q⟩ := ended
      exact ⟨v, _, _, Inv.ofTry J ok, r, q⟩
  · -- what the body lets out
    obtain ⟨a, B, sI, pins', σ', H', cls, d, eu, J0, ground, up, sky0, free, os, bare, wish⟩ := air
    subst eu
    have J : Inv X pins σ' H' sI := J0.ofTry ok
    have sky : Sky B (X.env :: X.outer) a (Zc cls d) X.env.locals s'.heap := hs ▸ sky0
    show wpAny _ _ (noteFrame (.ref a) X.env) _ _ _
    refine Sky.land Zc.steady frames hf sky fun h3 fly3 up3 => ?_
    have J3 : Inv X pins σ' H' { s' with heap := h3 } := J.landed ground fly3.1 (up.trans up3) os bare
    obtain ⟨o3, v3, at3, z3, d3⟩ := fly3.there
    have off : a ∉ frs (X.env :: X.outer) := by
      intro hm
      obtain ⟨_, o', e', hno⟩ := fly3.2.2.1.mem hm
      rw [at3] at e'
      cases e'
      exact hno _ d3
    have offL : a ≠ X.env.locals := by
      intro z
      exact off (List.mem_filterMap.mpr ⟨X.env, List.mem_cons_self, hf.trans (congrArg some z.symm)⟩)
    have offF : a ∉ X.fs := by
      intro hm
      obtain ⟨e, he, q⟩ := List.mem_filterMap.mp hm
      exact off (List.mem_filterMap.mpr ⟨e, .tail _ he, q⟩)
    have inSuite := J3.suite at3 d3 free offL offF
    have go : ∀ (hs' : List ExceptHandler) (l' : List Clause), AsOk X n hs' l' → wClauses X.K i out D l' cls d σ' H' →
        wpAny (model X.prog X.w) X.A (handleBy (.ref a) X.env hs') (SP X pins D) X.xe { s' with heap := h3 } := by
      intro hs' l' good
      induction good with
      | nil =>
        intro w
        refine wpAny_handleBy_nil ?_
        obtain ⟨_, _, _, ob, vs, T, oT, ts, atE, _, dE, v1, _⟩ := id fly3
        have last : wpAny (model X.prog X.w) X.A (setFlight (.ref a) X.env.frame) (fun _ s4 => wpAny (model X.prog X.w) X.A (throw (.ref a) : Sem Flow) (SP X pins D) X.xe s4) X.xe { s' with heap := h3 } := by
          rw [hf]
          refine HandSPX.setFlight_upZ fly3 fun h4 fly4 up4 => wpAny_throw (tk _ _ ?_)
          exact ⟨a, B, sI, pins, σ', H', cls, d, rfl, J, ground, (up.trans up3).trans up4, .inr (.inr (hs ▸ fly4)), free, os, bare, w⟩
        unfold PySem.passOn
        refine wpAny_bind (wpAny_field atE dE v1 ?_)
        rw [if_neg (show ¬ ((Value.ref T == Value.none) = true) by simp)]
        first
          | exact wpAny_bind (wpAny_pure (wpAny_bind last))
          | exact wpAny_bind last
      | @cons x c ts st sts p p' hds2 l2 named suite more ih =>
        rintro ⟨b, hit, yes, no⟩
        refine wpAny_handleBy_cons (codeAny_handlers_test ?_) (fun z => nomatch z)
        have ty : PySem.W.Looks (model X.prog X.w) h3 (typeOf (.ref a)) cls := by
          intro A Q E t k q
          exact wpAny_typeOf_ref (k _ _ at3) (z3.1.symm ▸ q)
        have ans := PySem.W.exm_one (M := model X.prog X.w) J3.kIn ty hit
        have ask : ∀ {Q E : Value → Shared → Prop}, Q c { s' with heap := h3 } → wpAny (model X.prog X.w) (X.A.mark (some (.ref a))) (eval (.Name x p) X.env) Q E { s' with heap := h3 } := by
          intro Q E q
          obtain ⟨glob, dbg, mine | ⟨none_, boot, other⟩⟩ := named
          · exact ld_glob (X := X.suite a ((a, o3) :: (X.pn ++ pins))) inSuite glob mine q dbg
          · exact ld_blt (X := X.suite a ((a, o3) :: (X.pn ++ pins))) inSuite glob none_ boot q other dbg
        refine ask (ans.here ?_)
        cases b with
        | false => exact ih (no rfl)
        | true =>
          refine codeAny_handlers_suite_as (HandSPX.lands_againZ fly3 fun h4 fly4 up4 => ?_)
          have J4 : Inv X pins σ' H' { s' with heap := h4 } := J.landed ground fly4.1 ((up.trans up3).trans up4) os bare
          obtain ⟨o4, v4, at4, z4, d4⟩ := fly4.there
          have S4 := J4.suite at4 d4 free offL offF
          refine store_ok (X := X.suite a ((a, o4) :: (X.pn ++ pins))) (v := .ref a) S4 nd at_ (.inl own) rfl (fun s5 S5 => ?_) (.inr own)
          have fin : ∀ {s6 : Shared} {σ6 : L2.St} {H6 : Hp} {R : Shared → Prop}, Inv (X.suite a ((a, o4) :: (X.pn ++ pins))) [] σ6 H6 s6 → (∀ s7, Inv X pins (σ6.set i none) H6 s7 → R s7) →
              wpAny (model X.prog X.w) X.A (do bindName X.env n .none; unbindBehindTheSuite X.env n p') (fun _ s7 => R s7) X.xe s6 := fun S6 hq => gone_ok (S6.unsuite ok) nd at_ own hq
          have body2 := (suite a o4 cls d (X.pn ++ pins) z4 ⟨_, d4⟩).run [] s5 _ H' _ S5 (yes rfl a free)
          refine wpAny_mono body2 (fun f s6 ended => ?_) fun _ _ z => z.elim
          cases f with
          | next =>
            obtain ⟨σ6, H6, S6, q6⟩ := ended
            exact fin S6 fun s7 J7 => ⟨_, _, J7, q6⟩
          | brk =>
            obtain ⟨σ6, H6, S6, q6⟩ := ended
            exact fin S6 fun s7 J7 => ⟨_, _, J7, q6⟩
          | cont =>
            obtain ⟨σ6, H6, S6, q6⟩ := ended
            exact fin S6 fun s7 J7 => ⟨_, _, J7, q6⟩
          | ret u =>
            obtain ⟨v6, σ6, H6, S6, r6, q6⟩ := ended
            exact fin S6 fun s7 J7 => ⟨_, _, _, J7, r6, q6⟩
    exact go _ _ hh wish
end

/-! ### isinstance(e, ..), e the caught error, its dict at dd -/
def rIsX (K : PySem.W.Frag) (D a : Addr) (cls : Value) (d : Option Addr) : List V → Hp → VK → Prop := fun xs H Q => cls = .ref D ∧ ∃ (dd : Addr) (fs : List (Str × V)), d = some dd ∧ H dd = some (.xd fs) ∧
  ((∃ (c : V) (cv : Value) (b : Bool), xs = [.ref a, c] ∧ ClsV c cv ∧ PySem.W.kitOne K (.ref D) cv = some b ∧ Q (.bl b) H) ∨
   (∃ (tp : Addr) (cs : List V) (us : List Value) (b : Bool), xs = [.ref a, .ref tp] ∧ H tp = some (.tup cs) ∧ Paired ClsV cs us ∧ PySem.W.kitAny K (.ref D) us = some b ∧ Q (.bl b) H))
theorem call_isX {X : Cx} {a D : Addr} {oe : Obj} {cls : Value} {d : Option Addr} {pn : List (Addr × Obj)} (C : ExcC X.K D) (hz : Zc cls d oe) (hf : ∃ vs, oe.data = .fields vs) :
    CallR (X.suite a ((a, oe) :: pn)) (.builtin "isinstance") (rIsX X.K D a cls d) := by
  intro pins s σ H xs us Q I r h
  obtain ⟨ec, dd, fs, ed, hdd, h⟩ := h
  subst ec ed
  obtain ⟨hget, _⟩ := I.pin (a, oe) (List.mem_append_left _ List.mem_cons_self)
  obtain ⟨vs, hv⟩ := hf
  obtain ⟨mA, hns, _⟩ := (show ObjOk X.prog X.w H s.heap dd (.xd fs) from I.hok dd _ hdd)
  obtain ⟨od, ho, _⟩ := lookIn_ns hns
  have J : PySem.W.InstAt s.heap a oe D (some od) := ⟨hget, hz.1, by unfold PySem.W.notCls; rw [hv] <;> rfl, by rw [hz.2]; exact ho⟩
  have hcl : (PySem.W.clsIn X.K D).isSome = true := by
    obtain ⟨cd, hc, _⟩ := PySem.W.any_some C.hd
    rw [hc]
    rfl
  have Z := PySem.W.kitx_exc (x := a) (ox := oe) (od := some od) hcl C.hg C.hk C.hs C.ha C.hn C.ht C.hm
  rcases h with ⟨c, cv, b, rfl, hc, e, q⟩ | ⟨tp, cs, us', b, rfl, htp, hall, e, q⟩
  · obtain ⟨u1, u2, rfl, r1, r2⟩ := vals2 r
    cases (show u1 = Value.ref a from r1)
    have e2 := hc.eq r2
    subst e2
    exact PySem.W.kia_one Z I.kIn J e (fun z => nomatch z) fun tk => ⟨.bl b, H, I.kept (t' := tk) fun _ _ z => z, rfl, q⟩
  · obtain ⟨u1, u2, rfl, r1, r2⟩ := vals2 r
    cases (show u1 = Value.ref a from r1)
    cases (show u2 = Value.ref tp from r2)
    obtain ⟨_, its, rv, o, t1, t2, n, t3⟩ := (show ObjOk X.prog X.w H s.heap tp (.tup cs) from I.hok tp _ htp)
    have e3 := ClsV.all hall rv
    subst e3
    obtain ⟨oc, od', dt, sl⟩ := o
    simp only at t2 t3
    subst t2 t3
    exact PySem.W.kia_tup Z I.kIn J t1 e (fun z => nomatch z) fun tk => ⟨.bl b, H, I.kept (t' := tk) fun _ _ z => z, rfl, q⟩
end K01
/-! k01: readings of tests that change nothing; while by such a test. -/
namespace K01
open PySem PySem.Spec PyProof.Rows L2
/-- the test answers b and leaves all as it is -/
def Tells (t : TT) (σ : L2.St) (H : Hp) (b : Bool) : Prop := ∀ Q : Bool → Hp → Prop, Q b H → t σ H Q
section
variable {t u : TT} {σ : L2.St} {H : Hp} {b b1 b2 : Bool}
theorem Tells.or (h1 : Tells t σ H b1) (h2 : b1 = false → Tells u σ H b2) : Tells (tOr t u) σ H (b1 || b2) := fun Q q => h1 _ (by
  cases b1 with
  | true => exact iteT q
  | false => exact iteF (h2 rfl Q q))
theorem Tells.and (h1 : Tells t σ H b1) (h2 : b1 = true → Tells u σ H b2) : Tells (tAnd t u) σ H (b1 && b2) := fun Q q => h1 _ (by
  cases b1 with
  | false => exact iteF q
  | true => exact iteT (h2 rfl Q q))
theorem Tells.neg (h1 : Tells t σ H b1) : Tells (tNot t) σ H (!b1) := fun Q q => h1 _ q
theorem Tells.as (h : Tells t σ H b1) (e : b1 = b) : Tells t σ H b := e ▸ h
theorem Tells.iff {tb te : TS} {D : Ends} (h : Tells t σ H b) (yes : b = true → tb D σ H) (no : b = false → te D σ H) : tIfS t tb te D σ H := h _ (by
  cases b with
  | true => exact iteT (yes rfl)
  | false => exact iteF (no rfl))
end
theorem while_tells {c : TT} {tb : TS} {D : Ends} {σ : L2.St} {H : Hp} (Pv : Nat → L2.St → Hp → Prop) (h0 : ∃ m, Pv m σ H)
    (hs : ∀ m σ H, Pv m σ H → ∃ b, Tells c σ H b ∧ (b = true → tb { D with nx := fun σ' H' => ∃ m', m' < m ∧ Pv m' σ' H', ct := fun σ' H' => ∃ m', m' < m ∧ Pv m' σ' H', bk := D.nx } σ H) ∧ (b = false → D.nx σ H)) : tWhile c tb D σ H := by
  refine ⟨Pv, h0, fun m σ H p => ?_⟩
  obtain ⟨b, tells, yes, no⟩ := hs m σ H p
  refine tells _ ?_
  cases b with
  | true => exact iteT ⟨_, fun _ _ h => h, yes rfl⟩
  | false => exact iteF (no rfl)
end K01
/-! k01, part 4: the text by its places; the facts of the top; is_sign, _word_end, _is_number, _word_kind. -/
namespace K01
open PySem PySem.Spec PyProof.Rows L2
open TL (tl len_tl ext_tl tl_append)

def top (i : Nat) : Stmt := PySem.Challenge.pw_tapline_k01_scripts_with_a_bad_place.main.body.getD i (.Pass ⟨0, 0, 0, 0⟩)
abbrev sIni : Stmt := inClass (top 2) 0
abbrev sSign : Stmt := top 17
abbrev sWEnd : Stmt := top 18
abbrev sIsNum : Stmt := top 19
abbrev sKind : Stmt := top 20
abbrev sQuoted : Stmt := top 21
abbrev sTokAt : Stmt := top 22
abbrev sCEnd : Stmt := top 23
abbrev sTokens : Stmt := top 24
abbrev sMix : Stmt := top 26
abbrev sStream : Stmt := top 27
abbrev sPick : Stmt := top 28
abbrev sGood : Stmt := top 29
abbrev sBad : Stmt := top 30
abbrev sBetw : Stmt := top 31
abbrev sTold : Stmt := top 32
abbrev sLaw : Stmt := top 33

/-! ### texts -/
def one (c : Nat) : Str := ⟨#[c]⟩
def Short (z : Str) : Prop := z.length ≤ 10000
theorem Short.line {z : Str} (h : Short z) : z.length ≤ sizeLine := Nat.le_trans h (by decide)
theorem str_eq {x y : Str} : (V.str x = V.str y) ↔ tl x = tl y := ⟨fun e => by rw [V.str.inj e], fun e => by rw [ext_tl e]⟩
theorem at_tl {z : Str} {i c : Nat} (h : (tl z)[i]? = some c) : atI z.cps.toList (i : Int) = some c := atI_nat h
theorem lt_of_at {z : Str} {i c : Nat} (h : (tl z)[i]? = some c) : i < z.length := by
  rw [len_tl]
  exact (List.getElem?_eq_some_iff.mp h).1
theorem at_of_lt {z : Str} {i : Nat} (h : i < z.length) : ∃ c, (tl z)[i]? = some c ∧ (tl z).drop i = c :: (tl z).drop (i + 1) := by
  rw [len_tl] at h
  exact ⟨(tl z)[i], List.getElem?_eq_getElem h, List.drop_eq_getElem_cons h⟩

/-! ### what the top has written -/
structure KTup (K : PySem.W.Frag) (a : Addr) (vs : List V) : Prop where
  ex : ∃ (o : Obj) (its : Array Value) (n : Nat), K.lookup a = some o ∧ o.cls = .type "tuple" ∧ o.data = .seq its n ∧ its.size ≤ sizeLine ∧ Vals vs its.toList
theorem KTup.sq {K : PySem.W.Frag} {a : Addr} {vs : List V} (h : KTup K a vs) (H : Hp) : SqT K H a vs := .inr h.ex
def LONGV : List V := [.str "<=", .str ">=", .str "==", .str "!=", .str "&&", .str "||"]
def KEYV : List V := [.str "int", .str "str", .str "thread", .str "probe", .str "when", .str "trace", .str "say", .str "speculate", .str "commit", .str "discard", .str "stop", .str "count", .str "sum", .str "least", .str "most", .str "hist", .str "self", .str "now", .str "cpu", .str "pid", .str "tid", .str "at", .str "name", .str "len", .str "cat", .str "sub", .str "text", .str "byte", .str "spec", .str "mod", .str "arg0", .str "arg1", .str "arg2", .str "arg3", .str "r0", .str "r1", .str "r2", .str "r3"]
def sLET : Str := "abcdefghijklmnopqrstuvwxyzABCDEFGHIJKLMNOPQRSTUVWXYZ"
def sDIG : Str := "0123456789"
def sSHT : Str := "{}()[],;:.@?=!+-*/<>"
theorem tl_LET : tl sLET = LETS := by decide +kernel
theorem tl_DIG : tl sDIG = DIGS := by decide +kernel
theorem tl_SHT : tl sSHT = SHRT := by decide +kernel
/-- a class of errors below TextError, at C -/
structure Err (K : PySem.W.Frag) (mg : Str → Option Value) (nm : Str) (C fI : Addr) : Prop where
  gC : mg nm = some (.ref C)
  ox : OexC K C
  xf : XfC K C
  ec : ExcC K C
  ini : PySem.W.findIn K (.ref C) "__init__" = some (some (.ref fI))
  nr : PySem.W.findIn K (.ref C) "row" = some none
  nc : PySem.W.findIn K (.ref C) "column" = some none
structure Txt (K : PySem.W.Frag) (mg : Str → Option Value) (fI cB cC cN cQ : Addr) : Prop where
  base : BaseIni K mg "TapError" cB
  tI : PySem.W.typeIn K (.ref fI) = some (.type "function")
  eC : Err K mg "BadCharacter" cC fI
  eN : Err K mg "BadNumber" cN fI
  eQ : Err K mg "BadQuote" cQ fI
  len : mg "len" = none
  ord : mg "ord" = none
  int : mg "int" = none
  str : mg "str" = none
  min : mg "min" = none
  range : mg "range" = none
  isinst : mg "isinstance" = none
  gLET : ∃ t, mg "LETTERS" = some (.str sLET t)
  gDIG : ∃ t, mg "DIGITS" = some (.str sDIG t)
  gSHT : ∃ t, mg "SHORT_SIGNS" = some (.str sSHT t)
  gMOST : ∃ t, mg "MOST" = some (.int 9223372036854775807 t)
  gLGST : ∃ t, mg "LONGEST" = some (.int 32 t)
  gPER : ∃ t, mg "PERCENT" = some (.int 37 t)
  gBACK : ∃ t, mg "BACKSLASH" = some (.int 92 t)
  gKEY : ∃ a, mg "KEYWORDS" = some (.ref a) ∧ KTup K a KEYV
  gLONG : ∃ a, mg "LONG_SIGNS" = some (.ref a) ∧ KTup K a LONGV

def clsOf (cC cN cQ : Addr) : Bad → Addr
  | .chr => cC
  | .num => cN
  | .quo => cQ
/-- what a raise tells: a new dict with the two fields; all that was tracked stands -/
def Raised (C : Addr) (row col : V) (H : Hp) (E : XK) : Prop := ∀ (d : Addr) (H' : Hp), Same H H' → H' d = some (.xd [("column", col), ("row", row)]) → E (.ref C) (some d) H'

/-! ### the promises -/
def spIni (K : PySem.W.Frag) : Sp := fun vs H Q _ => ∃ (a C : Addr) (x y : V), vs = [.ref a, x, y] ∧ OexC K C ∧ PySem.W.findIn K (.ref C) "row" = some none ∧ PySem.W.findIn K (.ref C) "column" = some none ∧ H a = some (exo a C none) ∧
  ∀ (d : Addr) (H' : Hp), H d = none → H' a = some (exo a C (some d)) → H' d = some (exd d [("column", y), ("row", x)]) → (∀ b o, H b = some o → b ≠ a → H' b = some o) → Q .non H'
def spSign : Sp := fun vs H Q _ => ∃ c : Nat, vs = [.str (one c)] ∧ Q (.bl (isSg c)) H
def spWEnd : Sp := fun vs H Q _ => ∃ (z : Str) (i : Nat), vs = [.str z, .int i] ∧ Short z ∧ Q (.int ((i + (((tl z).drop i).takeWhile isWrd).length : Nat) : Int)) H
def spIsNum : Sp := fun vs H Q _ => ∃ w : Str, vs = [.str w] ∧ Short w ∧ tl w ≠ [] ∧ Q (.bl (isNum (tl w))) H
def spKind (cN : Addr) : Sp := fun vs H Q E => ∃ (w : Str) (c : Nat) (row col : V), vs = [.str w, row, col] ∧ Short w ∧ (tl w)[0]? = some c ∧
  ((isDig c = true ∧ isNum (tl w) = false) → Raised cN row col H E) ∧ (¬ (isDig c = true ∧ isNum (tl w) = false) → ∀ x : Str, Q (.str x) H)

section
variable {P : Program} {w : World} {K : PySem.W.Frag} {mg : Str → Option Value} {base : Heap} {fI cB cC cN cQ : Addr}

/-! ### TextError.__init__ -/
theorem scI : FnScope ["self", "row", "column"] ["self", "row", "column"] (defScope sIni) := ⟨rfl, rfl, rfl, by decide +kernel, rfl, by decide +kernel, by decide +kernel⟩
theorem ok_ini {f : Addr} {fd : FuncData} (F : Fun K "__init__" "TextError.__init__" sIni f fd) (T : Txt K mg fI cB cC cN cQ) : FnOk P w K mg base CX0 1 f fd ["self", "row", "column"] (spIni K) := by
  refine F.ok scI (fun vs H Q E h => ?_) (fun cdv A outer s H vs Q E hr h => ?_)
  · obtain ⟨a, C, x, y, rfl, _⟩ := h
    rfl
  · obtain ⟨a, C, x, y, rfl, ox, nr, nc, ha, k⟩ := h
    refine ⟨_, pss_cons (ps_expr (pe_binit (nm := "TapError") (B := cB) T.base rfl (pa_cons (pv 0) (pa_cons pe_str pa_nil)) (by decide))) (pss_cons (ps_ost (pv 0) (pv 1)) (pss_one (ps_ost (pv 0) (pv 2)))), ?_⟩
    refine ⟨_, rfl, a, C, [_], rfl, by decide, ox, ha, ?_⟩
    refine ⟨_, rfl, _, rfl, a, C, rfl, ox, nr, .inl ⟨ha, fun dx hd ne => ?_⟩⟩
    refine ⟨_, rfl, _, rfl, a, C, rfl, ox, nc, .inr ⟨dx, _, upd_same, (by rw [upd_ne ne]; exact upd_same), Nat.le_of_ble_eq_true rfl, ?_⟩⟩
    refine k dx _ hd (by rw [upd_ne ne.symm]; exact upd_same) upd_same fun b o e hb => ?_
    have nb : b ≠ dx := ne_of_none e hd
    rw [upd_ne nb, upd_ne hb, upd_ne nb]
    exact e

/-! ### is_sign -/
theorem scS : FnScope ["char"] ["char"] (defScope sSign) := ⟨rfl, rfl, rfl, by decide +kernel, rfl, by decide +kernel, by decide +kernel⟩
theorem one_lt {a b : Nat} : (decide ((one a).cps.toList < (one b).cps.toList)) = decide (a < b) := by
  show decide ([a] < [b]) = decide (a < b)
  by_cases h : a < b
  · rw [decide_eq_true h]
    exact decide_eq_true (List.cons_lt_cons_iff.mpr (.inl h))
  · rw [decide_eq_false h]
    refine decide_eq_false fun q => ?_
    rcases List.cons_lt_cons_iff.mp q with q | ⟨_, q⟩
    · exact h q
    · exact absurd q (List.lt_irrefl _)
theorem ok_sign {f : Addr} {fd : FuncData} (F : Fun K "is_sign" "is_sign" sSign f fd) (T : Txt K mg fI cB cC cN cQ) : FnOk P w K mg base CX0 1 f fd ["char"] spSign := by
  refine F.ok scS (fun vs H Q E h => ?_) (fun cdv A outer s H vs Q E hr h => ?_)
  · obtain ⟨c, rfl, _⟩ := h
    rfl
  · obtain ⟨c, rfl, k⟩ := h
    obtain ⟨t1, g1⟩ := T.gPER
    obtain ⟨t2, g2⟩ := T.gBACK
    have r1 : ∀ {A B : Prop}, (one c).length = 1 := fun {_ _} => rfl
    refine ⟨_, pss_one (ps_ret (pe_and (pe_chain op_le_str op_le_str pe_str (pv 0) pe_str)
      (pe_and (pe_cmpR op_ne (pe_callB call_ord (by rfl) T.ord (by decide +kernel) (pa_cons (pv 0) pa_nil)) (pe_glob (v := .int 37) rfl g1 ⟨_, rfl⟩) (nomark _))
        (pe_one (pe_cmpR op_ne (pe_callB call_ord (by rfl) T.ord (by decide +kernel) (pa_cons (pv 0) pa_nil)) (pe_glob (v := .int 92) rfl g2 ⟨_, rfl⟩) (nomark _)))))), ?_⟩
    refine ⟨_, rfl, _, _, rfl, rfl, _, rfl, ?_⟩
    have e1 : (" " : Str) = one 32 := by decide +kernel
    have e2 : ("~" : Str) = one 126 := by decide +kernel
    rw [e1, one_lt]
    have eo : ((one c).cps.getD 0 0 : Nat) = c := rfl
    by_cases h1 : c < 32
    · rw [decide_eq_true h1]
      refine iteF ⟨_, rfl, ?_⟩
      refine iteF ?_
      have e : isSg c = false := by
        unfold isSg
        rw [decide_eq_false (Nat.not_le.mpr h1), Bool.false_and]
      rw [e] at k
      exact k
    · rw [decide_eq_false h1]
      refine iteT ⟨_, _, rfl, rfl, _, rfl, ?_⟩
      rw [e2, one_lt]
      by_cases h2 : 126 < c
      · rw [decide_eq_true h2]
        refine iteF ?_
        have e : isSg c = false := by
          unfold isSg
          rw [decide_eq_false (Nat.not_le.mpr h2), Bool.false_and, Bool.and_false]
        rw [e] at k
        exact k
      · rw [decide_eq_false h2]
        refine iteT ⟨_, rfl, _, rfl, rfl, rfl, _, rfl, ?_⟩
        have ne : ∀ n : Nat, (!decide (V.int ((one c).cps.getD 0 0 : Nat) = V.int (n : Int))) = decide (c ≠ n) := fun n => by
          rw [eo]
          by_cases h : c = n
          · subst h
            rw [decide_eq_true rfl, decide_eq_false (fun z => z rfl)]
            rfl
          · have z : ¬ V.int (c : Int) = V.int (n : Int) := fun z => h (by have := V.int.inj z; omega)
            rw [decide_eq_true (p := c ≠ n) h, decide_eq_false z]
            rfl
        have n1 := ne 37
        have n2 := ne 92
        have eg : isSg c = (decide (c ≠ 37) && decide (c ≠ 92)) := by
          unfold isSg
          rw [decide_eq_true (Nat.not_lt.mp h1), decide_eq_true (Nat.not_lt.mp h2), Bool.true_and, Bool.true_and]
        rw [eg] at k
        refine (show (if (!decide (V.int ((one c).cps.getD 0 0 : Nat) = V.int ((37 : Nat) : Int))) = true then _ else _) from ?_)
        rw [n1]
        by_cases h3 : c ≠ 37
        · rw [decide_eq_true h3] at k ⊢
          rw [Bool.true_and] at k
          refine iteT ⟨_, rfl, _, rfl, rfl, rfl, ?_⟩
          show Q (.bl (!decide (V.int ((one c).cps.getD 0 0 : Nat) = V.int ((92 : Nat) : Int)))) H
          rw [n2]
          exact k
        · rw [decide_eq_false h3] at k ⊢
          rw [Bool.false_and] at k
          exact iteF k
end
end K01
/-! k01, part 5: _word_end, _is_number, _word_kind. -/
namespace K01
open PySem PySem.Spec PyProof.Rows L2
open TL (tl len_tl ext_tl tl_append)
section
variable {P : Program} {w : World} {K : PySem.W.Frag} {mg : Str → Option Value} {base : Heap} {fI cB cC cN cQ : Addr}

theorem str_one {c n : Nat} {x : Str} (e : x = one n) : decide (V.str (one c) = V.str x) = decide (c = n) := by
  subst e
  by_cases h : c = n
  · subst h
    rw [decide_eq_true rfl, decide_eq_true rfl]
  · rw [decide_eq_false h]
    refine decide_eq_false fun z => h ?_
    have e := str_eq.mp z
    have e2 : [c] = [n] := e
    exact List.head_eq_of_cons_eq e2
theorem mem_LET {c : Nat} : decide (c ∈ sLET.cps.toList) = isLet c := by rw [show sLET.cps.toList = LETS from tl_LET]; rfl
theorem mem_DIG {c : Nat} : decide (c ∈ sDIG.cps.toList) = isDig c := by rw [show sDIG.cps.toList = DIGS from tl_DIG]; rfl
theorem mem_SHT {c : Nat} : decide (c ∈ sSHT.cps.toList) = decide (c ∈ SHRT) := by rw [show sSHT.cps.toList = SHRT from tl_SHT]
theorem under_is : ("_" : Str) = one 95 := by decide +kernel
theorem zero_is : ("0" : Str) = one 48 := by decide +kernel
theorem mark_is : ("\"" : Str) = one 34 := by decide +kernel
theorem int_lt {a b : Nat} : decide ((a : Int) < (b : Int)) = decide (a < b) := by
  by_cases h : a < b
  · rw [decide_eq_true h]
    exact decide_eq_true (by omega)
  · rw [decide_eq_false h]
    exact decide_eq_false (by omega)

/-! ### _word_end -/
theorem scW : FnScope ["text", "start", "end"] ["text", "start"] (defScope sWEnd) := ⟨rfl, rfl, rfl, by decide +kernel, rfl, by decide +kernel, by decide +kernel⟩
/-- behind j signs of the word -/
def PvW (z : Str) (i : Nat) (H : Hp) (m : Nat) (σ : L2.St) (H' : Hp) : Prop := H' = H ∧ ∃ j : Nat, σ = [some (.str z), some (.int i), some (.int ((i + j : Nat) : Int))] ∧ m = z.length - (i + j) ∧
  j + (((tl z).drop (i + j)).takeWhile isWrd).length = (((tl z).drop i).takeWhile isWrd).length
theorem ok_wend {f : Addr} {fd : FuncData} (F : Fun K "_word_end" "_word_end" sWEnd f fd) (T : Txt K mg fI cB cC cN cQ) : FnOk P w K mg base CX0 1 f fd ["text", "start"] spWEnd := by
  refine F.ok scW (fun vs H Q E h => ?_) (fun cdv A outer s H vs Q E hr h => ?_)
  · obtain ⟨z, i, rfl, _⟩ := h
    rfl
  · obtain ⟨z, i, rfl, sh, k⟩ := h
    obtain ⟨t1, g1⟩ := T.gLET
    obtain ⟨t2, g2⟩ := T.gDIG
    refine ⟨_, pss_cons (ps_set (i := 2) scW.nd rfl (Or.inl rfl) (pv 1))
      (pss_cons (ps_while PassesOwn.never
        (PW.pt (pw_and (pt_cmpR op_lt (pv 2) (pe_callB call_len_str (by rfl) T.len PySem.boot_len (pa_cons (pv 0) pa_nil)) (nomark _))
          (pw_and1 (PW.pt (pw_or (pt_cmpR op_in_sign (pe_ix ix_str (pv 0) (pv 2) (fun _ _ => rfl)) (pe_glob (v := .str sLET) rfl g1 ⟨_, rfl⟩) (by rfl))
            (pw_or (pt_cmpR op_in_sign (pe_ix ix_str (pv 0) (pv 2) (fun _ _ => rfl)) (pe_glob (v := .str sDIG) rfl g2 ⟨_, rfl⟩) (by rfl))
              (pw_or1 (pt_cmpR op_eq (pe_ix ix_str (pv 0) (pv 2) (fun _ _ => rfl)) pe_str (nomark _)))))))))
        (pss_one (ps_aug (i := 2) scW.nd rfl (Or.inl rfl) pe_int ip_add)))
      (pss_one (ps_ret (pv 2)))), ?_⟩
    refine ⟨_, rfl, ?_⟩
    refine while_tells (PvW z i H) ⟨_, rfl, 0, rfl, rfl, Nat.zero_add _⟩ ?_
    rintro m σ H' ⟨rfl, j, rfl, rfl, hj⟩
    by_cases hlt : i + j < z.length
    · obtain ⟨c, hc, hd⟩ := at_of_lt hlt
      have hat := at_tl hc
      rw [hd, List.takeWhile_cons] at hj
      refine ⟨isWrd c, Tells.as (b1 := true && isWrd c) (Tells.and (fun Q q => ⟨_, rfl, _, rfl, _, rfl, sh.line, _, _, rfl, rfl, _, rfl, ?_⟩) fun _ => Tells.or (b1 := isLet c) (fun Q q => ?_) fun _ => Tells.or (b1 := isDig c) (fun Q q => ?_) fun _ => (fun Q q => ?_)) (Bool.true_and _), fun hw => ?_, fun hw => ?_⟩
      · rw [int_lt, decide_eq_true hlt]
        exact q
      · refine ⟨_, rfl, _, rfl, z, _, c, rfl, rfl, sh.line, hat, c, sLET, rfl, rfl, _, rfl, ?_⟩
        rw [mem_LET]
        exact q
      · refine ⟨_, rfl, _, rfl, z, _, c, rfl, rfl, sh.line, hat, c, sDIG, rfl, rfl, _, rfl, ?_⟩
        rw [mem_DIG]
        exact q
      · refine ⟨_, rfl, _, rfl, z, _, c, rfl, rfl, sh.line, hat, rfl, _, rfl, ?_⟩
        rw [show (V.str ⟨#[c]⟩) = V.str (one c) from rfl, str_one under_is]
        exact q
      · rw [hw] at hj
        have e : j + ((((tl z).drop (i + j + 1)).takeWhile isWrd).length + 1) = _ := hj
        refine ⟨_, rfl, _, _, rfl, rfl, z.length - (i + (j + 1)), by omega, rfl, j + 1, ?_, rfl, ?_⟩
        · rw [show (((i + (j + 1) : Nat) : Int)) = ((i + j : Nat) : Int) + 1 by omega]
          rfl
        · rw [show i + (j + 1) = i + j + 1 by omega]
          omega
      · rw [hw] at hj
        have e : j + 0 = _ := hj
        refine ⟨_, rfl, ?_⟩
        rw [show i + j = i + (((tl z).drop i).takeWhile isWrd).length by omega]
        exact k
    · refine ⟨false, Tells.as (b1 := false && false) (Tells.and (fun Q q => ⟨_, rfl, _, rfl, _, rfl, sh.line, _, _, rfl, rfl, _, rfl, ?_⟩) fun z => (nomatch z)) rfl, (fun z => nomatch z), fun _ => ?_⟩
      · rw [int_lt, decide_eq_false hlt]
        exact q
      · rw [List.drop_eq_nil_of_le (by rw [← len_tl]; omega)] at hj
        have e : j + 0 = _ := hj
        refine ⟨_, rfl, ?_⟩
        rw [show i + j = i + (((tl z).drop i).takeWhile isWrd).length by omega]
        exact k

/-! ### _is_number -/
theorem scN : FnScope ["word", "char"] ["word"] (defScope sIsNum) := ⟨rfl, rfl, rfl, by decide +kernel, rfl, by decide +kernel, by decide +kernel⟩
theorem ok_isnum {f : Addr} {fd : FuncData} (F : Fun K "_is_number" "_is_number" sIsNum f fd) (T : Txt K mg fI cB cC cN cQ) : FnOk P w K mg base CX0 1 f fd ["word"] spIsNum := by
  refine F.ok scN (fun vs H Q E h => ?_) (fun cdv A outer s H vs Q E hr h => ?_)
  · obtain ⟨z, rfl, _⟩ := h
    rfl
  · obtain ⟨z, rfl, sh, ne, k⟩ := h
    obtain ⟨t2, g2⟩ := T.gDIG
    obtain ⟨t3, g3⟩ := T.gMOST
    have lenP : ∀ n : Nat, PE (cxOf CX0 P w K mg base ["word", "char"] "_is_number" (defScope sIsNum) f cdv A outer s H E).nox (.Name "word" ⟨0, 0, 0, 0⟩) (tVar 0) := fun _ => pv 0
    refine ⟨_, pss_cons (ps_if (PW.pt (pw_or (pt_cmpR op_gt (pe_callB call_len_str (by rfl) T.len PySem.boot_len (pa_cons (pv 0) pa_nil)) pe_int (nomark _))
        (pw_or1 (PW.pt (pw_and (pt_cmpR op_eq (pe_ix ix_str (pv 0) pe_int (fun _ _ => rfl)) pe_str (nomark _))
          (pw_and1 (pt_cmpR op_gt (pe_callB call_len_str (by rfl) T.len PySem.boot_len (pa_cons (pv 0) pa_nil)) pe_int (nomark _))))))))
        (pss_one (ps_ret pe_bl)) pss_nil)
      (pss_cons (ps_for PassesOwn.never rfl (pi_str (pv 0)) (pg_name (i := 1) scN.nd rfl (Or.inl rfl))
        (pss_one (ps_if (pt_cmpR op_notIn_sign (pv 1) (pe_glob (v := .str sDIG) rfl g2 ⟨_, rfl⟩) (by rfl)) (pss_one (ps_ret pe_bl)) pss_nil)))
      (pss_one (ps_ret (pe_cmpR op_le (pe_callTy call_int_str (by rfl) T.int (by decide +kernel) (pa_cons (pv 0) pa_nil)) (pe_glob (v := .int 9223372036854775807) rfl g3 ⟨_, rfl⟩) (nomark _))))), ?_⟩
    obtain ⟨c0, hc0⟩ : ∃ c, (tl z)[0]? = some c := by
      cases e : tl z with
      | nil => exact absurd e ne
      | cons c r => exact ⟨c, rfl⟩
    have gt19 : ∀ n : Nat, decide ((n : Int) < (z.length : Int)) = decide (n < (tl z).length) := fun n => by rw [int_lt, len_tl]
    have hcond : decide (19 < (tl z).length ∨ ((tl z)[0]? = some 48 ∧ 1 < (tl z).length)) = (decide (19 < (tl z).length) || (decide (c0 = 48) && decide (1 < (tl z).length))) := by
      rw [hc0]
      simp
    refine Tells.iff (b := decide (19 < (tl z).length) || (decide (c0 = 48) && decide (1 < (tl z).length))) (Tells.or (fun Q q => ⟨_, rfl, _, rfl, sh.line, _, _, rfl, rfl, _, rfl, ?_⟩)
      fun _ => Tells.and (fun Q q => ⟨_, rfl, z, _, c0, rfl, rfl, sh.line, at_tl (i := 0) hc0, rfl, _, rfl, ?_⟩) fun _ => (fun Q q => ⟨_, rfl, _, rfl, sh.line, _, _, rfl, rfl, _, rfl, ?_⟩)) (fun hb => ?_) (fun hb => ?_)
    · have e := gt19 19
      exact (show _ = _ from e) ▸ q
    · rw [show (V.str ⟨#[c0]⟩) = V.str (one c0) from rfl, str_one zero_is]
      exact q
    · have e := gt19 1
      exact (show _ = _ from e) ▸ q
    · rw [← hcond] at hb
      have e : isNum (tl z) = false := if_pos (of_decide_eq_true hb)
      rw [e] at k
      exact k
    · rw [← hcond] at hb
      have hb' := of_decide_eq_false hb
      have e : isNum (tl z) = if (tl z).all isDig = true then decide (NumText.digitsVal (tl z) ≤ 9223372036854775807) else false := if_neg hb'
      rw [e] at k
      have sz : z.cps.size = (tl z).length := (Array.length_toList).symm
      have at_c : ∀ i : Nat, z.cps[i]? = (tl z)[i]? := fun i => (Array.getElem?_toList).symm
      refine ⟨_, rfl, z, rfl, for_it walk_str (fun i σ H' => H' = H ∧ (∃ v, σ = [some (.str z), v]) ∧ ((tl z).take i).all isDig = true) ⟨rfl, ⟨_, rfl⟩, rfl⟩ (fun _ _ _ _ _ => trivial) ?_ ?_⟩
      · rintro i x σ H1 H2 hi ⟨rfl, ⟨v, rfl⟩, hall⟩ ⟨rfl, c, hc, rfl⟩
        rw [at_c] at hc
        refine Tells.iff (b := !isDig c) (fun Q q => ⟨_, rfl, c, sDIG, rfl, rfl, _, rfl, ?_⟩) (fun hb => ?_) (fun hb => ?_)
        · rw [mem_DIG]
          exact q
        · have hd : isDig c = false := by simpa using hb
          have hno : ¬ (tl z).all isDig = true := fun hq => by
            have := List.all_eq_true.mp hq c (List.mem_of_getElem? hc)
            rw [hd] at this
            cases this
          rw [if_neg hno] at k
          exact k
        · have hd : isDig c = true := by simpa using hb
          refine ⟨rfl, ⟨_, rfl⟩, ?_⟩
          rw [List.take_add_one, hc, List.all_append, hall]
          show (true && (isDig c && true)) = true
          rw [hd]
          rfl
      · rintro σ H1 ⟨rfl, ⟨v, rfl⟩, hall⟩
        rw [sz, List.take_length] at hall
        rw [if_pos hall] at k
        have hlen : z.length ≤ 19 := by
          rw [len_tl]
          have := not_or.mp hb'
          omega
        refine ⟨_, rfl, z, _, rfl, int_word hall ne hlen, by omega, _, _, rfl, rfl, ?_⟩
        have ed : decide (((NumText.digitsVal (tl z) : Nat) : Int) ≤ (9223372036854775807 : Int)) = decide (NumText.digitsVal (tl z) ≤ 9223372036854775807) := by
          by_cases h : NumText.digitsVal (tl z) ≤ 9223372036854775807
          · rw [decide_eq_true h]
            exact decide_eq_true (by omega)
          · rw [decide_eq_false h]
            exact decide_eq_false (by omega)
        show Q (.bl (decide (((NumText.digitsVal (tl z) : Nat) : Int) ≤ (9223372036854775807 : Int)))) H1
        rw [ed]
        exact k
end
end K01
/-! k01, part 6: _word_kind, _quoted, _comment_end. -/
namespace K01
open PySem PySem.Spec PyProof.Rows L2
open TL (tl len_tl ext_tl tl_append)

/-- a def of the top: its text, its name, its arguments -/
structure Def (K : PySem.W.Frag) (mg : Str → Option Value) (nm : Str) (st : Stmt) (ps : List Str) (f : Addr) (fd : FuncData) : Prop where
  F : Fun K nm nm st f fd
  g : mg nm = some (.ref f)
  b : Binds K fd ps []
/-- raise C(row, column): what __init__ is asked, from what the raise tells -/
theorem raised {K : PySem.W.Frag} {mg : Str → Option Value} {nm : Str} {C fI : Addr} {row col : V} {H : Hp} {E : XK} (T : Err K mg nm C fI) (h : Raised C row col H E) : ∀ a, H a = none → spIni K ([.ref a, row, col] : List V) (upd H a (exo a C none))
    (fun v H2 => v = .non ∧ ∃ (d : Addr) (fs : List (Str × V)), H2 a = some (exo a C (some d)) ∧ H2 d = some (exd d fs) ∧ H d = none ∧ E (.ref C) (some d) (upd (del H2 a) d (.xd fs))) (fun _ _ _ => False) := by
  intro a ha
  refine ⟨a, C, row, col, rfl, T.ox, T.nr, T.nc, upd_same, fun d H' hd h1 h2 hk => ⟨rfl, d, _, h1, h2, ?_, ?_⟩⟩
  · have nda : d ≠ a := fun z => by
      rw [z, upd_same] at hd
      cases hd
    rw [upd_ne nda] at hd
    exact hd
  · have nda : d ≠ a := fun z => by
      rw [z, upd_same] at hd
      cases hd
    have hd' : H d = none := by
      rw [upd_ne nda] at hd
      exact hd
    refine h d _ (fun b o e => ?_) upd_same
    have nba : b ≠ a := ne_of_none e ha
    rw [upd_ne (ne_of_none e hd'), del_ne nba]
    exact hk b o (by rw [upd_ne nba]; exact e) nba

def spQuoted (cQ : Addr) : Sp := fun vs H Q E => ∃ (z : Str) (i : Nat) (row col : V), vs = [.str z, .int i, row, col] ∧ Short z ∧ i < z.length ∧
  (∀ m, quo ((tl z).drop (i + 1)) = some m → ¬ 32 < m → ∀ q : Str, q.length = m → Q (.str q) H) ∧
  ((∀ m, quo ((tl z).drop (i + 1)) = some m → 32 < m) → Raised cQ row col H E)
def spCEnd : Sp := fun vs H Q _ => ∃ (z : Str) (i : Nat), vs = [.str z, .int i] ∧ Short z ∧ i ≤ z.length ∧ Q (.int ((i + (((tl z).drop i).takeWhile (· != 10)).length : Nat) : Int)) H

section
variable {P : Program} {w : World} {K : PySem.W.Frag} {mg : Str → Option Value} {base : Heap} {fI cB cC cN cQ : Addr}

/-! ### _word_kind -/
theorem scK : FnScope ["word", "row", "column"] ["word", "row", "column"] (defScope sKind) := ⟨rfl, rfl, rfl, by decide +kernel, rfl, by decide +kernel, by decide +kernel⟩
theorem ok_kind {f fN : Addr} {fd fdI fdN : FuncData} (F : Fun K "_word_kind" "_word_kind" sKind f fd) (T : Txt K mg fI cB cC cN cQ) (DI : Fun K "__init__" "TextError.__init__" sIni fI fdI) (bI : Binds K fdI ["self", "row", "column"] [])
    (DN : Def K mg "_is_number" sIsNum ["word"] fN fdN) : FnOk P w K mg base (L2.CX P w) 3 f fd ["word", "row", "column"] (spKind cN) := by
  refine F.okX scK (fun vs H Q E h => ?_) (fun cdv A outer s H vs Q E hr h => ?_)
  · obtain ⟨z, c, row, col, rfl, _⟩ := h
    rfl
  · obtain ⟨z, c, row, col, rfl, sh, hc, bad, good⟩ := h
    obtain ⟨t2, g2⟩ := T.gDIG
    obtain ⟨aK, gK, kK⟩ := T.gKEY
    have GI : FnOk P w K mg base CX0 1 fI fdI ["self", "row", "column"] (spIni K) := ok_ini DI T
    have GN : FnOk P w K mg base CX0 1 fN fdN ["word"] spIsNum := ok_isnum DN.F T
    have hr1 : Room 1 _ := hr.mono (by decide)
    have tk := takes_of (X := cxOf (L2.CX P w) P w K mg base ["word", "row", "column"] "_word_kind" (defScope sKind) f cdv A outer s H E) rfl rfl rfl rfl
    refine ⟨_, pss_cons (ps_if (pt_cmpR op_in_sign (pe_ix ix_str (pv 0) pe_int (fun _ _ => rfl)) (pe_glob (v := .str sDIG) rfl g2 ⟨_, rfl⟩) (by rfl))
        (pss_cons (ps_if (pt_not (pt_val (pe_call GN hr1 rfl DN.g DN.F.kp DN.b .nil pass0 (pa_cons (pv 0) pa_nil))))
          (pss_one (ps_raise rfl tk (pmk_oex T.eN.ox T.eN.ini T.tI GI hr bI .nil pass0 rfl T.eN.gC (pa_cons (pv 1) (pa_cons (pv 2) pa_nil))))) pss_nil)
        (pss_one (ps_ret pe_str))) pss_nil)
      (pss_cons (ps_if (pt_cmpR op_in_seq (pv 0) (pe_glob (v := .ref aK) rfl gK rfl) (by rfl)) (pss_one (ps_ret pe_str)) pss_nil)
      (pss_one (ps_ret pe_str))), ?_⟩
    have ne : tl z ≠ [] := fun e => by
      rw [e] at hc
      cases hc
    refine Tells.iff (b := isDig c) (fun Q q => ⟨_, rfl, z, _, c, rfl, rfl, sh.line, at_tl (i := 0) hc, c, sDIG, rfl, rfl, _, rfl, ?_⟩) (fun hd => ?_) (fun hd => ?_)
    · rw [mem_DIG]
      exact q
    · refine Tells.iff (b := !isNum (tl z)) (Tells.neg fun Q q => ⟨_, rfl, z, rfl, sh, ne, _, rfl, q⟩) (fun hn => ?_) (fun hn => ?_)
      · exact ⟨_, rfl, _, rfl, Nat.le_of_ble_eq_true rfl, raised T.eN (bad ⟨hd, by simpa using hn⟩)⟩
      · exact good (fun z => by rw [z.2] at hn; cases hn) _
    · have hg := good fun z => by rw [hd] at z; cases z.1
      refine ⟨_, rfl, aK, KEYV, rfl, .inr (kK.sq _), rfl, by decide, _, rfl, ?_⟩
      by_cases hk : inV (.str z) KEYV = true
      · exact (show (if inV (V.str z) KEYV = true then _ else _) from (by rw [if_pos hk]; exact hg _))
      · exact (show (if inV (V.str z) KEYV = true then _ else _) from (by rw [if_neg hk]; exact hg _))

/-! ### _comment_end -/
theorem scC : FnScope ["text", "start", "end"] ["text", "start"] (defScope sCEnd) := ⟨rfl, rfl, rfl, by decide +kernel, rfl, by decide +kernel, by decide +kernel⟩
theorem nl_is : ("\n" : Str) = NL := by decide +kernel
theorem ok_cend {f : Addr} {fd : FuncData} (F : Fun K "_comment_end" "_comment_end" sCEnd f fd) (T : Txt K mg fI cB cC cN cQ) : FnOk P w K mg base CX0 1 f fd ["text", "start"] spCEnd := by
  refine F.ok scC (fun vs H Q E h => ?_) (fun cdv A outer s H vs Q E hr h => ?_)
  · obtain ⟨z, i, rfl, _⟩ := h
    rfl
  · obtain ⟨z, i, rfl, sh, hi, k⟩ := h
    refine ⟨_, pss_cons (ps_set (i := 2) scC.nd rfl (Or.inl rfl) (pe_bm PySem.F.plainAttrs_str PySem.F.slot_str_find PySem.F.type_str_find mt_find3 (pv 0) (pa_cons pe_str (pa_cons (pv 1) pa_nil))))
      (pss_cons (ps_if (pt_cmpR op_lt (pv 2) pe_int (nomark _)) (pss_one (ps_ret (pe_callB call_len_str (by rfl) T.len PySem.boot_len (pa_cons (pv 0) pa_nil)))) pss_nil)
      (pss_one (ps_ret (pv 2)))), ?_⟩
    refine ⟨_, rfl, rfl, _, rfl, z, NL, _, rfl, by rw [nl_is], ?_⟩
    dsimp only [gName, tSeq]
    refine Tells.iff (b := decide (Txt.find3 z NL (i : Int) < 0)) (fun Q q => ⟨_, rfl, _, _, rfl, rfl, _, rfl, q⟩) (fun hb => ?_) (fun hb => ?_)
    · refine ⟨_, rfl, z, rfl, sh.line, ?_⟩
      rcases find_nl z i hi with ⟨_, e⟩ | e
      · rw [e] at k
        exact k
      · have := of_decide_eq_true hb
        rw [e] at this
        omega
    · refine ⟨_, rfl, ?_⟩
      rcases find_nl z i hi with ⟨e, _⟩ | e
      · have := of_decide_eq_false hb
        rw [e] at this
        omega
      · show Q (.int (Txt.find3 z NL (i : Int))) H
        rw [e]
        exact k
end
end K01
/-! k01, part 7: _quoted. -/
namespace K01
open PySem PySem.Spec PyProof.Rows L2
open TL (tl len_tl ext_tl tl_append)

theorem cut_tl {z : Str} {lo hi : Nat} (h1 : lo ≤ z.length) (h2 : hi ≤ z.length) : tl (cutS z (some (lo : Int)) (some (hi : Int))) = ((tl z).drop lo).take (hi - lo) := by
  have e : ∀ n k : Nat, k ≤ n → ∀ d : Nat, HT.sIx n d (some (k : Int)) = k := fun n k h d => by
    rw [HT.sIx_nat]
    omega
  show tl (⟨(((z.cps.toList).drop (HT.sIx z.length 0 (some (lo : Int)))).take (HT.sIx z.length z.length (some (hi : Int)) - HT.sIx z.length 0 (some (lo : Int)))).toArray⟩ : Str) = _
  rw [e _ _ h1, e _ _ h2]
section
variable {P : Program} {w : World} {K : PySem.W.Frag} {mg : Str → Option Value} {base : Heap} {fI cB cC cN cQ : Addr}
theorem scQ : FnScope ["text", "start", "row", "column", "end"] ["text", "start", "row", "column"] (defScope sQuoted) := ⟨rfl, rfl, rfl, by decide +kernel, rfl, by decide +kernel, by decide +kernel⟩
/-- behind j signs of the text -/
def PvQ (z : Str) (i : Nat) (row col : V) (H : Hp) (m : Nat) (σ : L2.St) (H' : Hp) : Prop := H' = H ∧ ∃ j : Nat, σ = [some (.str z), some (.int i), some row, some col, some (.int ((i + 1 + j : Nat) : Int))] ∧ m = z.length - (i + 1 + j) ∧ i + 1 + j ≤ z.length ∧
  quo ((tl z).drop (i + 1)) = (quo ((tl z).drop (i + 1 + j))).map (· + j)
theorem ok_quoted {f fS : Addr} {fd fdI fdS : FuncData} (F : Fun K "_quoted" "_quoted" sQuoted f fd) (T : Txt K mg fI cB cC cN cQ) (DI : Fun K "__init__" "TextError.__init__" sIni fI fdI) (bI : Binds K fdI ["self", "row", "column"] [])
    (DS : Def K mg "is_sign" sSign ["char"] fS fdS) : FnOk P w K mg base (L2.CX P w) 3 f fd ["text", "start", "row", "column"] (spQuoted cQ) := by
  refine F.okX scQ (fun vs H Q E h => ?_) (fun cdv A outer s H vs Q E hr h => ?_)
  · obtain ⟨z, i, row, col, rfl, _⟩ := h
    rfl
  · obtain ⟨z, i, row, col, rfl, sh, hi, good, bad⟩ := h
    obtain ⟨t2, g2⟩ := T.gLGST
    have GI : FnOk P w K mg base CX0 1 fI fdI ["self", "row", "column"] (spIni K) := ok_ini DI T
    have GS : FnOk P w K mg base CX0 1 fS fdS ["char"] spSign := ok_sign DS.F T
    have hr1 : Room 1 _ := hr.mono (by decide)
    have tk := takes_of (X := cxOf (L2.CX P w) P w K mg base ["text", "start", "row", "column", "end"] "_quoted" (defScope sQuoted) f cdv A outer s H E) rfl rfl rfl rfl
    refine ⟨_, pss_cons (ps_set (i := 4) scQ.nd rfl (Or.inl rfl) (pe_op op_add (pv 1) pe_int))
      (pss_cons (ps_while (passes_of rfl)
        (PW.pt (pw_and (pt_cmpR op_lt (pv 4) (pe_callB call_len_str (by rfl) T.len PySem.boot_len (pa_cons (pv 0) pa_nil)) (nomark _))
          (pw_and1 (pt_cmpR op_ne (pe_ix ix_str (pv 0) (pv 4) (fun _ _ => rfl)) pe_str (nomark _)))))
        (pss_cons (ps_if (pt_not (pt_val (pe_call GS hr1 rfl DS.g DS.F.kp DS.b .nil pass0 (pa_cons (pe_ix ix_str (pv 0) (pv 4) (fun _ _ => rfl)) pa_nil))))
          (pss_one (ps_raise rfl tk (pmk_oex T.eQ.ox T.eQ.ini T.tI GI hr bI .nil pass0 rfl T.eQ.gC (pa_cons (pv 2) (pa_cons (pv 3) pa_nil))))) pss_nil)
        (pss_one (ps_aug (i := 4) scQ.nd rfl (Or.inl rfl) pe_int ip_add))))
      (pss_cons (ps_if (PW.pt (pw_or (pt_cmpR op_eq (pv 4) (pe_callB call_len_str (by rfl) T.len PySem.boot_len (pa_cons (pv 0) pa_nil)) (nomark _))
          (pw_or1 (pt_cmpR op_gt (pe_op op_sub (pe_op op_sub (pv 4) (pv 1)) pe_int) (pe_glob (v := .int 32) rfl g2 ⟨_, rfl⟩) (nomark _)))))
        (pss_one (ps_raise rfl tk (pmk_oex T.eQ.ox T.eQ.ini T.tI GI hr bI .nil pass0 rfl T.eQ.gC (pa_cons (pv 2) (pa_cons (pv 3) pa_nil))))) pss_nil)
      (pss_one (ps_ret (pe_slice sl_str (pv 0) (po_some (pe_op op_add (pv 1) pe_int)) (po_some (pv 4))))))), ?_⟩
    refine ⟨_, rfl, _, _, rfl, rfl, ?_⟩
    refine while_tells (PvQ z i row col H) ⟨_, rfl, 0, rfl, rfl, by omega, ?_⟩ ?_
    · show quo ((tl z).drop (i + 1)) = (quo ((tl z).drop (i + 1))).map (· + 0)
      cases quo ((tl z).drop (i + 1)) <;> rfl
    rintro m σ H' ⟨rfl, j, rfl, rfl, hle, hq⟩
    -- what stands behind the loop
    have after : (i + 1 + j = z.length ∧ quo ((tl z).drop (i + 1)) = none) ∨ (i + 1 + j < z.length ∧ quo ((tl z).drop (i + 1)) = some j) →
        tSeq (tIfS (tOr (tTest (tOp rEq (tVar 4) (tCB (fun xs H Q => ∃ z, xs = [V.str z] ∧ z.length ≤ sizeLine ∧ Q (V.int ↑z.length) H) (tCons (tVar 0) tNil)))) (tTest (tOp (rI0 fun i j => .bl (decide (j < i))) (tOp (rI0 fun i j => .int (i - j)) (tOp (rI0 fun i j => .int (i - j)) (tVar 4) (tVar 1)) (tC (.int 1))) (tC (.int 32)))))
          (fun _ σ H => tMkO cQ (spIni K) [] (tCons (tVar 2) (tCons (tVar 3) tNil)) σ H fun cls d H' => E cls d H') tNext)
          (tRet (tSl rSlS (tVar 0) (tPart (tOp (rI0 fun i j => .int (i + j)) (tVar 1) (tC (.int 1)))) (tPart (tVar 4)))) { nx := fun _ H' => Q .non H', rt := Q }
          [some (.str z), some (.int i), some row, some col, some (.int ((i + 1 + j : Nat) : Int))] H' := fun hj => by
      refine Tells.iff (b := decide (i + 1 + j = z.length) || decide (32 < j)) (Tells.or (fun Q q => ⟨_, rfl, _, rfl, _, rfl, sh.line, rfl, _, rfl, ?_⟩) fun _ => fun Q q => ⟨_, rfl, _, rfl, _, _, rfl, rfl, _, _, rfl, rfl, _, _, rfl, rfl, _, rfl, ?_⟩) (fun hb => ?_) (fun hb => ?_)
      · have e : decide (V.int ((i + 1 + j : Nat) : Int) = V.int (z.length : Int)) = decide (i + 1 + j = z.length) := by
          by_cases h : i + 1 + j = z.length
          · rw [decide_eq_true h, h]
            exact decide_eq_true rfl
          · rw [decide_eq_false h]
            exact decide_eq_false fun z => h (by have := V.int.inj z; omega)
        rw [e]
        exact q
      · have e : decide ((32 : Int) < ((i + 1 + j : Nat) : Int) - (i : Int) - 1) = decide (32 < j) := by
          by_cases h : 32 < j
          · rw [decide_eq_true h]
            exact decide_eq_true (by omega)
          · rw [decide_eq_false h]
            exact decide_eq_false (by omega)
        rw [e]
        exact q
      · refine ⟨_, rfl, _, rfl, Nat.le_of_ble_eq_true rfl, raised T.eQ (bad fun m hm => ?_)⟩
        rcases hj with ⟨_, e⟩ | ⟨h1, e⟩
        · rw [e] at hm
          cases hm
        · rw [e] at hm
          cases hm
          simp at hb
          omega
      · have hb' := Bool.or_eq_false_iff.mp hb
        have h1 := of_decide_eq_false hb'.1
        have h2 := of_decide_eq_false hb'.2
        rcases hj with ⟨h, _⟩ | ⟨h, e⟩
        · exact absurd h h1
        · refine ⟨_, rfl, _, rfl, _, _, rfl, rfl, _, rfl, _, rfl, _, rfl, z, rfl, sh.line, good j e h2 _ ?_⟩
          have ec := cut_tl (z := z) (lo := i + 1) (hi := i + 1 + j) (by omega) (by omega)
          rw [show ((i : Int) + 1) = ((i + 1 : Nat) : Int) by omega]
          rw [len_tl, ec, List.length_take, List.length_drop, ← len_tl]
          omega
    by_cases hlt : i + 1 + j < z.length
    · obtain ⟨c, hc, hd⟩ := at_of_lt hlt
      rw [hd] at hq
      have hat := at_tl hc
      refine ⟨decide (c ≠ 34), Tells.as (b1 := true && decide (c ≠ 34)) (Tells.and (fun Q q => ⟨_, rfl, _, rfl, _, rfl, sh.line, _, _, rfl, rfl, _, rfl, ?_⟩) fun _ => fun Q q => ⟨_, rfl, _, rfl, z, _, c, rfl, rfl, sh.line, hat, rfl, _, rfl, ?_⟩) (Bool.true_and _), fun hw => ?_, fun hw => ?_⟩
      · rw [int_lt, decide_eq_true hlt]
        exact q
      · rw [show (V.str ⟨#[c]⟩) = V.str (one c) from rfl, str_one mark_is, ← decide_not]
        exact q
      · have h34 := of_decide_eq_true hw
        have hq2 : quo ((tl z).drop (i + 1)) = (if isSg c = true then (quo ((tl z).drop (i + 1 + j + 1))).map (· + 1) else none).map (· + j) := by
          rw [hq]
          show (if c = 34 then some 0 else _).map (· + j) = _
          rw [if_neg h34]
        refine Tells.iff (b := !isSg c) (Tells.neg fun Q q => ⟨_, rfl, _, rfl, z, _, c, rfl, rfl, sh.line, hat, c, rfl, _, rfl, q⟩) (fun hb => ?_) (fun hb => ?_)
        · have hs : isSg c = false := by simpa using hb
          refine ⟨_, rfl, _, rfl, Nat.le_of_ble_eq_true rfl, raised T.eQ (bad fun m hm => ?_)⟩
          rw [hq2, hs] at hm
          cases hm
        · have hs : isSg c = true := by simpa using hb
          refine ⟨_, rfl, _, _, rfl, rfl, z.length - (i + 1 + (j + 1)), by omega, rfl, j + 1, ?_, rfl, by omega, ?_⟩
          · rw [show (((i + 1 + (j + 1) : Nat) : Int)) = ((i + 1 + j : Nat) : Int) + 1 by omega]
            rfl
          · rw [hq2, if_pos hs, show i + 1 + (j + 1) = i + 1 + j + 1 by omega]
            cases quo ((tl z).drop (i + 1 + j + 1)) with
            | none => rfl
            | some n =>
              show some (n + 1 + j) = some (n + (j + 1))
              rw [show n + 1 + j = n + (j + 1) by omega]
      · refine after (.inr ⟨hlt, ?_⟩)
        have h34 : c = 34 := by simpa using hw
        rw [hq]
        show (if c = 34 then some 0 else _).map (· + j) = _
        rw [if_pos h34]
        show some (0 + j) = some j
        rw [Nat.zero_add]
    · have el : i + 1 + j = z.length := by omega
      refine ⟨false, Tells.as (b1 := false && false) (Tells.and (fun Q q => ⟨_, rfl, _, rfl, _, rfl, sh.line, _, _, rfl, rfl, _, rfl, ?_⟩) fun z => (nomatch z)) rfl, (fun z => nomatch z), fun _ => after (.inl ⟨el, ?_⟩)⟩
      · rw [int_lt, decide_eq_false hlt]
        exact q
      · rw [hq, List.drop_eq_nil_of_le (by rw [← len_tl]; omega)]
        rfl
end
end K01
/-! k01, part 8: _token_at. -/
namespace K01
open PySem PySem.Spec PyProof.Rows L2
open TL (tl len_tl ext_tl tl_append)

theorem cut_any {z : Str} {lo hi : Nat} (h1 : lo ≤ z.length) : tl (cutS z (some (lo : Int)) (some (hi : Int))) = ((tl z).drop lo).take (hi - lo) := by
  have e : ∀ n k d : Nat, HT.sIx n d (some (k : Int)) = min k n := fun n k d => HT.sIx_nat n d k
  show tl (⟨(((z.cps.toList).drop (HT.sIx z.length 0 (some (lo : Int)))).take (HT.sIx z.length z.length (some (hi : Int)) - HT.sIx z.length 0 (some (lo : Int)))).toArray⟩ : Str) = _
  rw [e, e, Nat.min_eq_left h1]
  show ((tl z).drop lo).take (min hi z.length - lo) = _
  by_cases h : hi ≤ z.length
  · rw [Nat.min_eq_left h]
  · rw [Nat.min_eq_right (by omega), List.take_of_length_le (by rw [List.length_drop, ← len_tl]; omega), List.take_of_length_le (by rw [List.length_drop, ← len_tl]; omega)]
theorem in_strs {s : Str} : ∀ {ws : List Str}, inV (.str s) (ws.map V.str) = decide (tl s ∈ ws.map tl)
  | [] => rfl
  | a :: ws => by
    have ih := in_strs (s := s) (ws := ws)
    have e : inV (.str s) ((a :: ws).map V.str) = (eqV (.str a) (.str s) || inV (.str s) (ws.map V.str)) := rfl
    have e1 : eqV (.str a) (.str s) = decide (a = s) := by
      show (a == s) = decide (a = s)
      exact Bool.beq_eq_decide_eq a s
    rw [e, e1, ih]
    by_cases h : a = s
    · subst h
      simp
    · have h' : ¬ tl s = tl a := fun z => h (ext_tl z.symm)
      rw [decide_eq_false h, Bool.false_or]
      simp [h']
def LONGS : List Str := ["<=", ">=", "==", "!=", "&&", "||"]
theorem LONGS_tl : LONGS.map tl = LONG := by decide +kernel
theorem in_LONG {s : Str} : inV (.str s) LONGV = decide (tl s ∈ LONG) := by
  rw [← LONGS_tl]
  exact in_strs (ws := LONGS)

def spTokAt (cC cN cQ : Addr) : Sp := fun vs H Q E => ∃ (z : Str) (i : Nat) (row col : V), vs = [.str z, .int i, row, col] ∧ Short z ∧ i < z.length ∧
  (∀ k, tokLen ((tl z).drop i) = .ok k → ∀ (t : Addr) (x : V) (H' : Hp), Same H H' → H' t = some (.tup [x, .int ((i + k : Nat) : Int)]) → Q (.ref t) H') ∧
  (∀ b, tokLen ((tl z).drop i) = .error b → Raised (clsOf cC cN cQ b) row col H E)
section
variable {P : Program} {w : World} {K : PySem.W.Frag} {mg : Str → Option Value} {base : Heap} {fI cB cC cN cQ : Addr}
theorem scTA : FnScope ["text", "start", "row", "column", "char", "word", "quoted"] ["text", "start", "row", "column"] (defScope sTokAt) := ⟨rfl, rfl, rfl, by decide +kernel, rfl, by decide +kernel, by decide +kernel⟩
theorem ok_tokat {f fW fN fK fQ fS : Addr} {fd fdI fdW fdN fdK fdQ fdS : FuncData} (F : Fun K "_token_at" "_token_at" sTokAt f fd) (T : Txt K mg fI cB cC cN cQ) (DI : Fun K "__init__" "TextError.__init__" sIni fI fdI) (bI : Binds K fdI ["self", "row", "column"] [])
    (DW : Def K mg "_word_end" sWEnd ["text", "start"] fW fdW) (DN : Def K mg "_is_number" sIsNum ["word"] fN fdN) (DK : Def K mg "_word_kind" sKind ["word", "row", "column"] fK fdK)
    (DQ : Def K mg "_quoted" sQuoted ["text", "start", "row", "column"] fQ fdQ) (DS : Def K mg "is_sign" sSign ["char"] fS fdS) : FnOk P w K mg base (L2.CX P w) 4 f fd ["text", "start", "row", "column"] (spTokAt cC cN cQ) := by
  refine F.okX scTA (fun vs H Q E h => ?_) (fun cdv A outer s H vs Q E hr h => ?_)
  · obtain ⟨z, i, row, col, rfl, _⟩ := h
    rfl
  · obtain ⟨z, i, row, col, rfl, sh, hi, good, bad⟩ := h
    obtain ⟨t1, g1⟩ := T.gLET
    obtain ⟨t2, g2⟩ := T.gDIG
    obtain ⟨t3, g3⟩ := T.gSHT
    obtain ⟨aL, gL, kL⟩ := T.gLONG
    have GI : FnOk P w K mg base CX0 1 fI fdI ["self", "row", "column"] (spIni K) := ok_ini DI T
    have GW : FnOk P w K mg base CX0 1 fW fdW ["text", "start"] spWEnd := ok_wend DW.F T
    have GK : FnOk P w K mg base (L2.CX P w) 3 fK fdK ["word", "row", "column"] (spKind cN) := ok_kind DK.F T DI bI DN
    have GQ : FnOk P w K mg base (L2.CX P w) 3 fQ fdQ ["text", "start", "row", "column"] (spQuoted cQ) := ok_quoted DQ.F T DI bI DS
    have hr1 : Room 1 _ := hr.mono (by decide)
    have hr2 : Room 2 _ := hr.mono (by decide)
    have tk := takes_of (X := cxOf (L2.CX P w) P w K mg base ["text", "start", "row", "column", "char", "word", "quoted"] "_token_at" (defScope sTokAt) f cdv A outer s H E) rfl rfl rfl rfl
    refine ⟨_, pss_cons (ps_set (i := 4) scTA.nd rfl (Or.inl rfl) (pe_ix ix_str (pv 0) (pv 1) (fun _ _ => rfl)))
      (pss_cons (ps_if (PW.pt (pw_or (pt_cmpR op_in_sign (pv 4) (pe_glob (v := .str sLET) rfl g1 ⟨_, rfl⟩) (by rfl)) (pw_or1 (pt_cmpR op_in_sign (pv 4) (pe_glob (v := .str sDIG) rfl g2 ⟨_, rfl⟩) (by rfl)))))
        (pss_cons (ps_set (i := 5) scTA.nd rfl (Or.inl rfl) (pe_slice sl_str (pv 0) (po_some (pv 1)) (po_some (pe_call GW hr1 rfl DW.g DW.F.kp DW.b .nil pass0 (pa_cons (pv 0) (pa_cons (pv 1) pa_nil))))))
        (pss_one (ps_ret (pe_tup (pa_cons (pe_tup (pa_cons (pe_call GK hr rfl DK.g DK.F.kp DK.b .nil (passes_call tk fun _ _ _ _ h => h) (pa_cons (pv 5) (pa_cons (pv 2) (pa_cons (pv 3) pa_nil)))) (pa_cons (pv 5) (pa_cons (pv 2) (pa_cons (pv 3) pa_nil)))))
          (pa_cons (pe_op op_add (pv 1) (pe_callB call_len_str (by rfl) T.len PySem.boot_len (pa_cons (pv 5) pa_nil))) pa_nil)))))) pss_nil)
      (pss_cons (ps_if (pt_cmpR op_eq (pv 4) pe_str (nomark _))
        (pss_cons (ps_set (i := 6) scTA.nd rfl (Or.inl rfl) (pe_call GQ hr rfl DQ.g DQ.F.kp DQ.b .nil (passes_call tk fun _ _ _ _ h => h) (pa_cons (pv 0) (pa_cons (pv 1) (pa_cons (pv 2) (pa_cons (pv 3) pa_nil))))))
        (pss_one (ps_ret (pe_tup (pa_cons (pe_tup (pa_cons pe_str (pa_cons (pv 6) (pa_cons (pv 2) (pa_cons (pv 3) pa_nil)))))
          (pa_cons (pe_op op_add (pe_op op_add (pv 1) (pe_callB call_len_str (by rfl) T.len PySem.boot_len (pa_cons (pv 6) pa_nil))) pe_int) pa_nil)))))) pss_nil)
      (pss_cons (ps_if (pt_cmpR op_in_seq (pe_slice sl_str (pv 0) (po_some (pv 1)) (po_some (pe_op op_add (pv 1) pe_int))) (pe_glob (v := .ref aL) rfl gL rfl) (by rfl))
        (pss_one (ps_ret (pe_tup (pa_cons (pe_tup (pa_cons pe_str (pa_cons (pe_slice sl_str (pv 0) (po_some (pv 1)) (po_some (pe_op op_add (pv 1) pe_int))) (pa_cons (pv 2) (pa_cons (pv 3) pa_nil)))))
          (pa_cons (pe_op op_add (pv 1) pe_int) pa_nil))))) pss_nil)
      (pss_cons (ps_if (pt_cmpR op_in_sign (pv 4) (pe_glob (v := .str sSHT) rfl g3 ⟨_, rfl⟩) (by rfl))
        (pss_one (ps_ret (pe_tup (pa_cons (pe_tup (pa_cons pe_str (pa_cons (pv 4) (pa_cons (pv 2) (pa_cons (pv 3) pa_nil)))))
          (pa_cons (pe_op op_add (pv 1) pe_int) pa_nil))))) pss_nil)
      (pss_one (ps_raise rfl tk (pmk_oex T.eC.ox T.eC.ini T.tI GI hr2 bI .nil pass0 rfl T.eC.gC (pa_cons (pv 2) (pa_cons (pv 3) pa_nil))))))))), ?_⟩
    obtain ⟨c, hc, hd⟩ := at_of_lt hi
    have hat := at_tl hc
    -- what is handed back: a pair, whatever the token is
    have back : ∀ (k : Nat) (H1 : Hp), tokLen ((tl z).drop i) = .ok k → Same H H1 → ∀ (p : Addr) (xs : List V), H1 p = none → ∀ (v : Int), v = ((i + k : Nat) : Int) → ∀ q, (upd H1 p (.tup xs)) q = none → Q (.ref q) (upd (upd H1 p (.tup xs)) q (.tup [.ref p, .int v])) := by
      rintro k H1 hk s1 p xs hp v rfl q hq
      refine good k hk q (.ref p) _ (fun b o e => ?_) upd_same
      have hp0 : b ≠ p := ne_of_none (s1 b o e) hp
      have e2 : (upd H1 p (.tup xs)) b = some o := by rw [upd_ne hp0]; exact s1 b o e
      rw [upd_ne (ne_of_none e2 hq)]
      exact e2
    refine ⟨_, rfl, _, rfl, z, _, c, rfl, rfl, sh.line, hat, ?_⟩
    dsimp only [gName, tSeq]
    refine Tells.iff (b := isLet c || isDig c) (Tells.or (fun Q q => ⟨_, rfl, c, sLET, rfl, rfl, _, rfl, ?_⟩) fun _ => fun Q q => ⟨_, rfl, c, sDIG, rfl, rfl, _, rfl, ?_⟩) (fun hb => ?_) (fun hb => ?_)
    · rw [mem_LET]
      exact q
    · rw [mem_DIG]
      exact q
    · have hw : isLet c = true ∨ isDig c = true := Bool.or_eq_true_iff.mp hb
      have ek := tokLen_word (r := (tl z).drop (i + 1)) hw
      rw [← hd] at ek
      refine ⟨_, rfl, _, rfl, _, rfl, _, rfl, _, rfl, z, i, rfl, sh, _, rfl, z, rfl, sh.line, ?_⟩
      have ew := cut_tl (z := z) (lo := i) (hi := i + (((tl z).drop i).takeWhile isWrd).length) (by omega) (by
        have := tw_len isWrd ((tl z).drop i)
        rw [List.length_drop, ← len_tl] at this
        omega)
      rw [Nat.add_sub_cancel_left, take_tw] at ew
      generalize cutS z (some (i : Int)) (some ((i + (((tl z).drop i).takeWhile isWrd).length : Nat) : Int)) = wd at ew
      have el : wd.length = (((tl z).drop i).takeWhile isWrd).length := by rw [len_tl, ew]
      have shw : Short wd := by
        have h1 := tw_len isWrd ((tl z).drop i)
        rw [List.length_drop, ← len_tl] at h1
        unfold Short at sh ⊢
        omega
      have hw0 : (tl wd)[0]? = some c := by
        rw [ew, hd, List.takeWhile_cons, wrd_of hw]
        rfl
      dsimp only [gName]
      refine ⟨_, rfl, _, rfl, _, rfl, wd, c, row, col, rfl, shw, hw0, fun hn => ?_, fun hn x => ?_⟩
      · rw [ew] at hn
        rw [if_pos hn] at ek
        exact bad .num ek
      · rw [ew] at hn
        rw [if_neg hn] at ek
        refine ⟨_, rfl, _, rfl, _, rfl, Nat.le_of_ble_eq_true rfl, fun p hp => ⟨_, rfl, _, rfl, wd, rfl, shw.line, _, _, rfl, rfl, Nat.le_of_ble_eq_true rfl, fun q hq => ?_⟩⟩
        exact back _ H ek (Same.refl H) p _ hp _ (by rw [el]; omega) q hq
    · have hw : ¬ (isLet c = true ∨ isDig c = true) := fun z => by
        rw [Bool.or_eq_true_iff.mpr z] at hb
        cases hb
      dsimp only [tNext]
      refine Tells.iff (b := decide (c = 34)) (fun Q q => ⟨_, rfl, rfl, _, rfl, ?_⟩) (fun h34 => ?_) (fun h34 => ?_)
      · rw [show (V.str ⟨#[c]⟩) = V.str (one c) from rfl, str_one mark_is]
        exact q
      · have ek := tokLen_quo (r := (tl z).drop (i + 1)) hw (of_decide_eq_true h34)
        rw [← hd] at ek
        refine ⟨_, rfl, _, rfl, _, rfl, _, rfl, z, i, row, col, rfl, sh, hi, fun m hm h32 qd hqd => ?_, fun hm => ?_⟩
        · rw [hm] at ek
          have ek' : tokLen ((tl z).drop i) = .ok (m + 2) := ek.trans (if_neg h32)
          have hq0 : quo ((tl z).drop (i + 1)) = some m := hm
          have shq : qd.length ≤ sizeLine := by
            rw [hqd]
            exact Nat.le_trans (Nat.le_trans (Nat.not_lt.mp h32) (by decide : 32 ≤ 10000)) (by decide)
          dsimp only [gName]
          refine ⟨_, rfl, _, rfl, _, rfl, Nat.le_of_ble_eq_true rfl, fun p hp => ⟨_, rfl, _, rfl, qd, rfl, shq, _, _, rfl, rfl, _, _, rfl, rfl, Nat.le_of_ble_eq_true rfl, fun q hq => ?_⟩⟩
          exact back _ H ek' (Same.refl H) p _ hp _ (by rw [hqd]; omega) q hq
        · refine bad .quo ?_
          rw [ek]
          cases e : quo ((tl z).drop (i + 1)) with
          | none => rfl
          | some m => exact if_pos (hm m e)
      · have n34 := of_decide_eq_false h34
        have ecut := cut_any (z := z) (lo := i) (hi := i + 2) (by omega)
        rw [Nat.add_sub_cancel_left] at ecut
        have ei : ((i : Int) + 2) = ((i + 2 : Nat) : Int) := by omega
        dsimp only [tNext]
        refine Tells.iff (b := decide (((tl z).drop i).take 2 ∈ LONG)) (fun Q q => ⟨_, rfl, _, rfl, _, rfl, _, rfl, _, _, rfl, rfl, _, rfl, z, rfl, sh.line, aL, LONGV, rfl, .inr (kL.sq _), rfl, by decide, _, rfl, ?_⟩) (fun hl => ?_) (fun hl => ?_)
        · have e : inV (.str (cutS z (some (i : Int)) (some ((i : Int) + 2)))) LONGV = decide (((tl z).drop i).take 2 ∈ LONG) := by
            rw [in_LONG, ei, ecut]
          exact (show Q (if false = true then _ else inV (.str (cutS z (some (i : Int)) (some ((i : Int) + 2)))) LONGV) H from (by rw [if_neg Bool.false_ne_true, e]; exact q))
        · have ek := tokLen_long (r := (tl z).drop (i + 1)) hw n34 (by rw [← hd]; exact of_decide_eq_true hl)
          rw [← hd] at ek
          refine ⟨_, rfl, _, rfl, _, rfl, _, rfl, _, _, rfl, rfl, _, rfl, z, rfl, sh.line, _, rfl, _, rfl, Nat.le_of_ble_eq_true rfl, fun p hp => ⟨_, rfl, _, _, rfl, rfl, Nat.le_of_ble_eq_true rfl, fun q hq => ?_⟩⟩
          exact back _ H ek (Same.refl H) p _ hp _ (by omega) q hq
        · have ek := tokLen_short (r := (tl z).drop (i + 1)) hw n34 (by rw [← hd]; exact of_decide_eq_false hl)
          rw [← hd] at ek
          dsimp only [tNext]
          refine Tells.iff (b := decide (c ∈ SHRT)) (fun Q q => ⟨_, rfl, c, sSHT, rfl, rfl, _, rfl, ?_⟩) (fun hs => ?_) (fun hs => ?_)
          · rw [mem_SHT]
            exact q
          · rw [if_pos (of_decide_eq_true hs)] at ek
            refine ⟨_, rfl, _, rfl, _, rfl, Nat.le_of_ble_eq_true rfl, fun p hp => ⟨_, rfl, _, _, rfl, rfl, Nat.le_of_ble_eq_true rfl, fun q hq => ?_⟩⟩
            exact back _ H ek (Same.refl H) p _ hp _ (by omega) q hq
          · rw [if_neg (of_decide_eq_false hs)] at ek
            exact ⟨_, rfl, _, rfl, Nat.le_of_ble_eq_true rfl, raised T.eC (bad .chr ek)⟩
end
end K01
/-! k01, part 9: tokens. -/
namespace K01
open PySem PySem.Spec PyProof.Rows L2
open TL (tl len_tl ext_tl tl_append)

def spTokens (cC cN cQ : Addr) : Sp := fun vs H Q E => ∃ (z : Str) (e : Res), vs = [.str z] ∧ Short z ∧ Scan (tl z) 1 1 0 e ∧
  (∀ n, e = .ok n → ∀ (l : Addr) (ts : List V) (H' : Hp), Same H H' → H' l = some (.lst ts) → ts.length = n → Q (.ref l) H') ∧
  (∀ b r c, e = .bad b r c → Raised (clsOf cC cN cQ b) (.int (r : Nat)) (.int (c : Nat)) H E)
/-- before a turn of the loop: at sign i, behind n tokens, what is left is read so that e comes out -/
def PvT (z : Str) (e : Res) (l : Addr) (H : Hp) (m : Nat) (σ : L2.St) (H' : Hp) : Prop :=
  ∃ (i row b n : Nat) (ts : List V) (tok : Option V), σ = [some (.str z), some (.ref l), some (.int i), some (.int row), some (.int b), tok] ∧ H' l = some (.lst ts) ∧ ts.length = n ∧ Same H H' ∧
    b ≤ i ∧ n ≤ i ∧ n ≤ z.length ∧ m = z.length - i ∧ Scan ((tl z).drop i) row (i - b + 1) n e
theorem Raised.mono {C : Addr} {row col : V} {H H1 : Hp} {E : XK} (s : Same H H1) (h : Raised C row col H E) : Raised C row col H1 E := fun d H' s' hd => h d H' (s.trans s') hd
section
variable {P : Program} {w : World} {K : PySem.W.Frag} {mg : Str → Option Value} {base : Heap} {fI cB cC cN cQ : Addr}
theorem space_is : (" " : Str) = one 32 := by decide +kernel
theorem hash_is : ("#" : Str) = one 35 := by decide +kernel
theorem nl_one : ("\n" : Str) = one 10 := by decide +kernel
theorem scT : FnScope ["text", "found", "at", "row", "begin", "token"] ["text"] (defScope sTokens) := ⟨rfl, rfl, rfl, by decide +kernel, rfl, by decide +kernel, by decide +kernel⟩
theorem ok_tokens {f fW fN fK fQ fS fT fC : Addr} {fd fdI fdW fdN fdK fdQ fdS fdT fdC : FuncData} (F : Fun K "tokens" "tokens" sTokens f fd) (T : Txt K mg fI cB cC cN cQ) (DI : Fun K "__init__" "TextError.__init__" sIni fI fdI) (bI : Binds K fdI ["self", "row", "column"] [])
    (DW : Def K mg "_word_end" sWEnd ["text", "start"] fW fdW) (DN : Def K mg "_is_number" sIsNum ["word"] fN fdN) (DK : Def K mg "_word_kind" sKind ["word", "row", "column"] fK fdK)
    (DQ : Def K mg "_quoted" sQuoted ["text", "start", "row", "column"] fQ fdQ) (DS : Def K mg "is_sign" sSign ["char"] fS fdS) (DT : Def K mg "_token_at" sTokAt ["text", "start", "row", "column"] fT fdT)
    (DC : Def K mg "_comment_end" sCEnd ["text", "start"] fC fdC) : FnOk P w K mg base (L2.CX P w) 5 f fd ["text"] (spTokens cC cN cQ) := by
  refine F.okX scT (fun vs H Q E h => ?_) (fun cdv A outer s H vs Q E hr h => ?_)
  · obtain ⟨z, e, rfl, _⟩ := h
    rfl
  · obtain ⟨z, e, rfl, sh, hsc, good, bad⟩ := h
    have GT : FnOk P w K mg base (L2.CX P w) 4 fT fdT ["text", "start", "row", "column"] (spTokAt cC cN cQ) := ok_tokat DT.F T DI bI DW DN DK DQ DS
    have GC : FnOk P w K mg base CX0 1 fC fdC ["text", "start"] spCEnd := ok_cend DC.F T
    have hr1 : Room 1 _ := hr.mono (by decide)
    have tk := takes_of (X := cxOf (L2.CX P w) P w K mg base ["text", "found", "at", "row", "begin", "token"] "tokens" (defScope sTokens) f cdv A outer s H E) rfl rfl rfl rfl
    refine ⟨_, pss_cons (ps_set (i := 1) scT.nd rfl (Or.inl rfl) (pe_lst pa_nil))
      (pss_cons (ps_set (i := 2) scT.nd rfl (Or.inl rfl) pe_int)
      (pss_cons (ps_set (i := 3) scT.nd rfl (Or.inl rfl) pe_int)
      (pss_cons (ps_set (i := 4) scT.nd rfl (Or.inl rfl) pe_int)
      (pss_cons (ps_while (passes_of rfl) (pt_cmpR op_lt (pv 2) (pe_callB call_len_str (by rfl) T.len PySem.boot_len (pa_cons (pv 0) pa_nil)) (nomark _))
        (pss_one (ps_if (pt_cmpR op_eq (pe_ix ix_str (pv 0) (pv 2) (fun _ _ => rfl)) pe_str (nomark _))
          (pss_cons (ps_aug (i := 2) scT.nd rfl (Or.inl rfl) pe_int ip_add) (pss_cons (ps_aug (i := 3) scT.nd rfl (Or.inl rfl) pe_int ip_add) (pss_one (ps_set (i := 4) scT.nd rfl (Or.inl rfl) (pv 2)))))
          (pss_one (ps_if (pt_cmpR op_eq (pe_ix ix_str (pv 0) (pv 2) (fun _ _ => rfl)) pe_str (nomark _))
            (pss_one (ps_aug (i := 2) scT.nd rfl (Or.inl rfl) pe_int ip_add))
            (pss_one (ps_if (pt_cmpR op_eq (pe_ix ix_str (pv 0) (pv 2) (fun _ _ => rfl)) pe_str (nomark _))
              (pss_one (ps_set (i := 2) scT.nd rfl (Or.inl rfl) (pe_call GC hr1 rfl DC.g DC.F.kp DC.b .nil pass0 (pa_cons (pv 0) (pa_cons (pv 2) pa_nil)))))
              (pss_cons (ps_asg (pe_call GT hr rfl DT.g DT.F.kp DT.b .nil (passes_call tk fun _ _ _ _ h => h) (pa_cons (pv 0) (pa_cons (pv 2) (pa_cons (pv 3) (pa_cons (pe_op op_add (pe_op op_sub (pv 2) (pv 4)) pe_int) pa_nil)))))
                (pg_tup rfl (pgs_cons (pg_name (i := 5) scT.nd rfl (Or.inl rfl)) (pgs_cons (pg_name (i := 2) scT.nd rfl (Or.inl rfl)) pgs_nil))))
              (pss_one (ps_expr (pe_bm PySem.F.plainAttrs_list PySem.F.slot_list_append PySem.F.type_list_append mt_append (pv 1) (pa_cons (pv 5) pa_nil))))))))))))
      (pss_cons (ps_expr (pe_bm PySem.F.plainAttrs_list PySem.F.slot_list_append PySem.F.type_list_append mt_append (pv 1) (pa_cons (pe_tup (pa_cons pe_str (pa_cons pe_str (pa_cons (pv 3) (pa_cons (pe_op op_add (pe_op op_sub (pv 2) (pv 4)) pe_int) pa_nil))))) pa_nil)))
      (pss_one (ps_ret (pv 1)))))))), ?_⟩
    refine ⟨Nat.zero_le _, fun l hl => ?_⟩
    dsimp only [gName, tSeq, tAsg, tC]
    refine while_tells (PvT z e l H) ⟨_, 0, 1, 0, 0, [], none, rfl, upd_same, rfl, fun b o q => by rw [upd_ne (ne_of_none q hl)]; exact q, Nat.le_refl 0, Nat.le_refl 0, Nat.zero_le _, rfl, hsc⟩ ?_
    rintro m σ H1 ⟨i, row, b, n, ts, tok, rfl, hl1, hn, s1, hb, hni, hnz, rfl, sc⟩
    have hcol : ((i : Int) - (b : Int) + 1) = ((i - b + 1 : Nat) : Int) := by omega
    have sl : z.length ≤ 10000 := sh
    by_cases hlt : i < z.length
    · obtain ⟨c, hc, hd⟩ := at_of_lt hlt
      have hat := at_tl hc
      rw [hd] at sc
      have look : ∀ (x : Str) (k : Nat), x = one k → Tells (tTest (tOp rEq (tOp rIxS (tVar 0) (tVar 2)) (tC (.str x)))) [some (.str z), some (.ref l), some (.int i), some (.int row), some (.int b), tok] H1 (decide (c = k)) := fun x k hx Q q =>
        ⟨_, rfl, _, rfl, z, _, c, rfl, rfl, sh.line, hat, rfl, _, rfl, by rw [show (V.str ⟨#[c]⟩) = V.str (one c) from rfl, str_one hx]; exact q⟩
      refine ⟨true, fun Q q => ⟨_, rfl, _, rfl, _, rfl, sh.line, _, _, rfl, rfl, _, rfl, by rw [int_lt, decide_eq_true hlt]; exact q⟩, fun _ => ?_, fun z => (nomatch z)⟩
      refine Tells.iff (look _ 10 nl_one) (fun h => ?_) (fun h => ?_)
      · have e10 := of_decide_eq_true h
        subst e10
        refine ⟨_, rfl, _, _, rfl, rfl, _, rfl, _, _, rfl, rfl, _, rfl, z.length - (i + 1), by omega, i + 1, row + 1, i + 1, n, ts, tok, rfl, hl1, hn, s1, Nat.le_refl _, by omega, hnz, rfl, ?_⟩
        cases sc with
        | nl q =>
          rw [Nat.sub_self]
          exact q
        | tk h1 _ _ _ _ => exact absurd rfl h1
        | er h1 _ _ _ => exact absurd rfl h1
      · have n10 := of_decide_eq_false h
        refine Tells.iff (look _ 32 space_is) (fun h => ?_) (fun h => ?_)
        · have e32 := of_decide_eq_true h
          subst e32
          refine ⟨_, rfl, _, _, rfl, rfl, z.length - (i + 1), by omega, i + 1, row, b, n, ts, tok, rfl, hl1, hn, s1, by omega, by omega, hnz, rfl, ?_⟩
          cases sc with
          | sp q =>
            rw [show i + 1 - b + 1 = i - b + 1 + 1 by omega]
            exact q
          | tk _ h1 _ _ _ => exact absurd rfl h1
          | er _ h1 _ _ => exact absurd rfl h1
        · have n32 := of_decide_eq_false h
          refine Tells.iff (look _ 35 hash_is) (fun h => ?_) (fun h => ?_)
          · have e35 := of_decide_eq_true h
            subst e35
            refine ⟨_, rfl, _, rfl, z, i, rfl, sh, by omega, ?_⟩
            have et : (((tl z).drop i).takeWhile (· != 10)).length = (((tl z).drop (i + 1)).takeWhile (· != 10)).length + 1 := by
              rw [hd]
              rfl
            refine ⟨z.length - (i + (((tl z).drop (i + 1)).takeWhile (· != 10)).length + 1), by omega, i + (((tl z).drop i).takeWhile (· != 10)).length, row, b, n, ts, tok, rfl, hl1, hn, s1, by omega, by omega, hnz, by rw [et]; rfl, ?_⟩
            cases sc with
            | cm q =>
              rw [et, show i + ((((tl z).drop (i + 1)).takeWhile (· != 10)).length + 1) - b + 1 = i - b + 1 + 1 + (((tl z).drop (i + 1)).takeWhile (· != 10)).length by omega,
                show i + ((((tl z).drop (i + 1)).takeWhile (· != 10)).length + 1) = (i + 1) + (((tl z).drop (i + 1)).takeWhile (· != 10)).length by omega, ← List.drop_drop, drop_tw]
              exact q
            | tk _ _ h1 _ _ => exact absurd rfl h1
            | er _ _ h1 _ => exact absurd rfl h1
          · have n35 := of_decide_eq_false h
            refine ⟨_, rfl, _, rfl, _, rfl, _, rfl, _, rfl, _, _, rfl, rfl, _, _, rfl, rfl, z, i, _, _, rfl, sh, hlt, fun k hk t x H2 s2 ht => ?_, fun bd hbd => ?_⟩
            · rw [hd] at hk
              have kp := tokLen_pos hk
              refine ⟨t, _, rfl, SqT.of ht, rfl, x, _, rfl, _, [], rfl, rfl, ?_⟩
              refine ⟨_, rfl, .inl ⟨rfl, _, SqL.of (s2 _ _ hl1)⟩, _, rfl, l, ts, x, rfl, rfl, s2 _ _ hl1, by rw [hn, sizeLine_eq]; omega, ?_⟩
              refine ⟨z.length - (i + k), by omega, i + k, row, b, n + 1, ts ++ [x], some x, rfl, upd_same, by rw [List.length_append, hn]; rfl, fun b' o q => ?_, by omega, by omega, by omega, rfl, ?_⟩
              · rw [upd_ne (ne_of_none q hl)]
                exact s2 _ _ (s1 _ _ q)
              · cases sc with
                | nl _ => exact absurd rfl n10
                | sp _ => exact absurd rfl n32
                | cm _ => exact absurd rfl n35
                | tk _ _ _ hk2 q =>
                  rw [hk] at hk2
                  cases hk2
                  rw [← hd, List.drop_drop] at q
                  rw [show i + k - b + 1 = i - b + 1 + k by omega]
                  exact q
                | er _ _ _ hb2 =>
                  rw [hk] at hb2
                  cases hb2
            · rw [hd] at hbd
              cases sc with
              | nl _ => exact absurd rfl n10
              | sp _ => exact absurd rfl n32
              | cm _ => exact absurd rfl n35
              | tk _ _ _ hk2 _ =>
                rw [hbd] at hk2
                cases hk2
              | er _ _ _ hb2 =>
                rw [hbd] at hb2
                cases hb2
                have q := Raised.mono s1 (bad _ _ _ rfl)
                rw [← hcol] at q
                exact q
    · refine ⟨false, fun Q q => ⟨_, rfl, _, rfl, _, rfl, sh.line, _, _, rfl, rfl, _, rfl, by rw [int_lt, decide_eq_false hlt]; exact q⟩, (fun z => nomatch z), fun _ => ?_⟩
      rw [List.drop_eq_nil_of_le (by rw [← len_tl]; omega)] at sc
      cases sc
      refine ⟨_, rfl, .inl ⟨rfl, _, SqL.of hl1⟩, _, rfl, _, rfl, _, rfl, _, _, rfl, rfl, _, _, rfl, rfl, Nat.le_of_ble_eq_true rfl, fun p hp => ?_⟩
      have npl : l ≠ p := ne_of_none hl1 hp
      refine ⟨l, ts, _, rfl, rfl, by rw [upd_ne npl]; exact hl1, by rw [hn, sizeLine_eq]; omega, _, rfl, ?_⟩
      refine good _ rfl l _ _ (fun b' o q => ?_) upd_same (by rw [List.length_append, hn]; rfl)
      have q1 := s1 _ _ q
      rw [upd_ne (ne_of_none q hl), upd_ne (ne_of_none q1 hp)]
      exact q1
end
end K01
/-! k01, part 10: _law_told. -/
namespace K01
open PySem PySem.Spec PyProof.Rows L2
open TL (tl len_tl ext_tl tl_append)

/-- which class is below which -/
structure Cat (K : PySem.W.Frag) (mg : Str → Option Value) (cB cT cC cN cQ cU : Addr) : Prop where
  gT : mg "TextError" = some (.ref cT)
  gU : mg "Unexpected" = some (.ref cU)
  mCC : PySem.W.exmOne K (.ref cC) (.ref cC) = some true
  mNC : PySem.W.exmOne K (.ref cN) (.ref cC) = some false
  mNN : PySem.W.exmOne K (.ref cN) (.ref cN) = some true
  mQC : PySem.W.exmOne K (.ref cQ) (.ref cC) = some false
  mQN : PySem.W.exmOne K (.ref cQ) (.ref cN) = some false
  mQQ : PySem.W.exmOne K (.ref cQ) (.ref cQ) = some true
  kC : PySem.W.kitAny K (.ref cC) [.ref cN, .ref cQ, .ref cU] = some false
  kN : PySem.W.kitAny K (.ref cN) [.ref cQ, .ref cU] = some false
  kQ : PySem.W.kitOne K (.ref cQ) (.ref cU) = some false
  tC : PySem.W.kitOne K (.ref cC) (.ref cT) = some true
  tN : PySem.W.kitOne K (.ref cN) (.ref cT) = some true
  tQ : PySem.W.kitOne K (.ref cQ) (.ref cT) = some true
  bQ : PySem.W.kitOne K (.ref cQ) (.ref cB) = some true
def kindOf : Bad → Str
  | .chr => "character"
  | .num => "number"
  | .quo => "quote"
def toldV : Res → List V
  | .ok n => [.str "tokens", .int (n : Nat)]
  | .bad b r c => [.str (kindOf b), .int (r : Nat), .int (c : Nat), .bl false, .bl true]
def spTold : Sp := fun vs H Q _ => ∃ (z : Str) (e : Res), vs = [.str z] ∧ Short z ∧ Scan (tl z) 1 1 0 e ∧ ∀ (t : Addr) (H' : Hp), Same H H' → H' t = some (.tup (toldV e)) → Q (.ref t) H'
theorem lk_row {x y : V} : ([("column", x), ("row", y)] : List (Str × V)).lookup ("row" : Str) = some y := by
  rw [lookup_put, if_neg (by decide +kernel), lookup_put, if_pos rfl]
theorem lk_col {x y : V} : ([("column", x), ("row", y)] : List (Str × V)).lookup ("column" : Str) = some x := by
  rw [lookup_put, if_pos rfl]
theorem same_new {H H1 : Hp} {p : Addr} {o : HO} (s : Same H H1) (hp : H1 p = none) : Same H (upd H1 p o) := fun b u e => by
  have e1 := s b u e
  rw [upd_ne (ne_of_none e1 hp)]
  exact e1
section
variable {P : Program} {w : World} {K : PySem.W.Frag} {mg : Str → Option Value} {base : Heap} {fI cB cT cC cN cQ cU : Addr}
theorem scTo : FnScope ["_law_text", "e"] ["_law_text"] (defScope sTold) := ⟨rfl, rfl, rfl, by decide +kernel, rfl, by decide +kernel, by decide +kernel⟩
theorem ok_told {f fW fN fK fQ fS fT fC fX : Addr} {fd fdI fdW fdN fdK fdQ fdS fdT fdC fdX : FuncData} (F : Fun K "_law_told" "_law_told" sTold f fd) (T : Txt K mg fI cB cC cN cQ) (A' : Cat K mg cB cT cC cN cQ cU) (DI : Fun K "__init__" "TextError.__init__" sIni fI fdI) (bI : Binds K fdI ["self", "row", "column"] [])
    (DW : Def K mg "_word_end" sWEnd ["text", "start"] fW fdW) (DN : Def K mg "_is_number" sIsNum ["word"] fN fdN) (DK : Def K mg "_word_kind" sKind ["word", "row", "column"] fK fdK)
    (DQ : Def K mg "_quoted" sQuoted ["text", "start", "row", "column"] fQ fdQ) (DS : Def K mg "is_sign" sSign ["char"] fS fdS) (DT : Def K mg "_token_at" sTokAt ["text", "start", "row", "column"] fT fdT)
    (DC : Def K mg "_comment_end" sCEnd ["text", "start"] fC fdC) (DX : Def K mg "tokens" sTokens ["text"] fX fdX) : FnOk P w K mg base CX0 6 f fd ["_law_text"] spTold := by
  refine F.ok scTo (fun vs H Q E h => ?_) (fun cdv A outer s H vs Q E hr h => ?_)
  · obtain ⟨z, e, rfl, _⟩ := h
    rfl
  · obtain ⟨z, e, rfl, sh, hsc, k⟩ := h
    have GX : FnOk P w K mg base (L2.CX P w) 5 fX fdX ["text"] (spTokens cC cN cQ) := ok_tokens DX.F T DI bI DW DN DK DQ DS DT DC
    refine ⟨_, pss_one (ps_try_clauses (i := 1) (out := fun _ _ _ _ => False)
      (tb := fun W => tRet (tTup (tCons (tC (.str "tokens")) (tCons (tCB (fun xs H Q => ∃ p ys, xs = [.ref p] ∧ (SqL K H p ys ∨ SqT K H p ys) ∧ Q (.int ys.length) H) (tCons (tCallS (spTokens cC cN cQ) (WE W) (tCons (tVar 0) tNil)) tNil)) tNil))))
      rfl rfl scTo.nd rfl rfl takes0
      (fun W pn xe tk _ => pss_one (ps_ret (pe_tup (pa_cons pe_str (pa_cons (pe_callB call_len_seq (by rfl) T.len PySem.boot_len (pa_cons (pe_callS GX hr rfl DX.g DX.F.kp DX.b (fun σ => passAt tk σ) (pa_cons (pv 0) pa_nil)) pa_nil)) pa_nil)))))
      (.cons ⟨rfl, by decide, .inl T.eC.gC⟩ (fun a ob cls d pn hz hf => pss_one (ps_ret (pe_tup (pa_cons pe_str (pa_cons (pe_xf T.eC.xf T.eC.nr hz hf (pv 1)) (pa_cons (pe_xf T.eC.xf T.eC.nc hz hf (pv 1))
          (pa_cons (pe_callB (call_isX T.eC.ec hz hf) (by rfl) T.isinst (by decide +kernel) (pa_cons (pv 1) (pa_cons (pe_tup (pa_cons (pe_glob (v := .ref cN) rfl T.eN.gC rfl) (pa_cons (pe_glob (v := .ref cQ) rfl T.eQ.gC rfl) (pa_cons (pe_glob (v := .ref cU) rfl A'.gU rfl) pa_nil)))) pa_nil)))
          (pa_cons (pe_callB (call_isX T.eC.ec hz hf) (by rfl) T.isinst (by decide +kernel) (pa_cons (pv 1) (pa_cons (pe_glob (v := .ref cT) rfl A'.gT rfl) pa_nil))) pa_nil)))))))) 
      (.cons ⟨rfl, by decide, .inl T.eN.gC⟩ (fun a ob cls d pn hz hf => pss_one (ps_ret (pe_tup (pa_cons pe_str (pa_cons (pe_xf T.eN.xf T.eN.nr hz hf (pv 1)) (pa_cons (pe_xf T.eN.xf T.eN.nc hz hf (pv 1))
          (pa_cons (pe_callB (call_isX T.eN.ec hz hf) (by rfl) T.isinst (by decide +kernel) (pa_cons (pv 1) (pa_cons (pe_tup (pa_cons (pe_glob (v := .ref cQ) rfl T.eQ.gC rfl) (pa_cons (pe_glob (v := .ref cU) rfl A'.gU rfl) pa_nil))) pa_nil)))
          (pa_cons (pe_callB (call_isX T.eN.ec hz hf) (by rfl) T.isinst (by decide +kernel) (pa_cons (pv 1) (pa_cons (pe_glob (v := .ref cT) rfl A'.gT rfl) pa_nil))) pa_nil))))))))
      (.cons ⟨rfl, by decide, .inl T.eQ.gC⟩ (fun a ob cls d pn hz hf => pss_one (ps_ret (pe_tup (pa_cons pe_str (pa_cons (pe_xf T.eQ.xf T.eQ.nr hz hf (pv 1)) (pa_cons (pe_xf T.eQ.xf T.eQ.nc hz hf (pv 1))
          (pa_cons (pe_callB (call_isX T.eQ.ec hz hf) (by rfl) T.isinst (by decide +kernel) (pa_cons (pv 1) (pa_cons (pe_glob (v := .ref cU) rfl A'.gU rfl) pa_nil)))
          (pa_cons (pe_and (pe_callB (call_isX T.eQ.ec hz hf) (by rfl) T.isinst (by decide +kernel) (pa_cons (pv 1) (pa_cons (pe_glob (v := .ref cT) rfl A'.gT rfl) pa_nil)))
            (pe_one (pe_callB (call_isX T.eQ.ec hz hf) (by rfl) T.isinst (by decide +kernel) (pa_cons (pv 1) (pa_cons (pe_glob (v := .ref cB) rfl T.base.gB rfl) pa_nil))))) pa_nil))))))))
      .nil)))), ?_⟩
    refine ⟨_, rfl, z, e, rfl, sh, hsc, fun n he l ts H1 s1 hl hn => ?_, fun b r c he d H1 s1 hd => ?_⟩
    · subst he
      refine ⟨l, ts, rfl, .inl (SqL.of hl), Nat.le_of_ble_eq_true rfl, fun t ht => ?_⟩
      refine k t _ (same_new s1 ht) ?_
      rw [upd_same, hn]
      rfl
    · subst he
      cases b with
      | chr =>
        refine ⟨true, A'.mCC, fun _ a ha => ?_, fun z => (nomatch z)⟩
        refine ⟨_, rfl, rfl, rfl, d, _, _, rfl, hd, lk_row, _, rfl, rfl, rfl, d, _, _, rfl, hd, lk_col, _, rfl, Nat.le_of_ble_eq_true rfl, fun tp htp => ?_⟩
        have hd2 : ∀ o, (upd H1 tp o) d = some (.xd [("column", .int (c : Nat)), ("row", .int (r : Nat))]) := fun o => by
          rw [upd_ne (ne_of_none hd htp)]
          exact hd
        refine ⟨rfl, d, _, rfl, hd2 _, .inr ⟨tp, _, _, false, rfl, upd_same, .cons (.own _) (.cons (.own _) (.cons (.own _) .nil)), A'.kC, ?_⟩⟩
        refine ⟨_, rfl, rfl, d, _, rfl, hd2 _, .inl ⟨_, _, true, rfl, .own _, A'.tC, Nat.le_of_ble_eq_true rfl, fun t ht => ?_⟩⟩
        exact k t _ (same_new (same_new s1 htp) ht) upd_same
      | num =>
        refine ⟨false, A'.mNC, (fun z => nomatch z), fun _ => ⟨true, A'.mNN, fun _ a ha => ?_, fun z => (nomatch z)⟩⟩
        refine ⟨_, rfl, rfl, rfl, d, _, _, rfl, hd, lk_row, _, rfl, rfl, rfl, d, _, _, rfl, hd, lk_col, _, rfl, Nat.le_of_ble_eq_true rfl, fun tp htp => ?_⟩
        have hd2 : ∀ o, (upd H1 tp o) d = some (.xd [("column", .int (c : Nat)), ("row", .int (r : Nat))]) := fun o => by
          rw [upd_ne (ne_of_none hd htp)]
          exact hd
        refine ⟨rfl, d, _, rfl, hd2 _, .inr ⟨tp, _, _, false, rfl, upd_same, .cons (.own _) (.cons (.own _) .nil), A'.kN, ?_⟩⟩
        refine ⟨_, rfl, rfl, d, _, rfl, hd2 _, .inl ⟨_, _, true, rfl, .own _, A'.tN, Nat.le_of_ble_eq_true rfl, fun t ht => ?_⟩⟩
        exact k t _ (same_new (same_new s1 htp) ht) upd_same
      | quo =>
        refine ⟨false, A'.mQC, (fun z => nomatch z), fun _ => ⟨false, A'.mQN, (fun z => nomatch z), fun _ => ⟨true, A'.mQQ, fun _ a ha => ?_, fun z => (nomatch z)⟩⟩⟩
        refine ⟨_, rfl, rfl, rfl, d, _, _, rfl, hd, lk_row, _, rfl, rfl, rfl, d, _, _, rfl, hd, lk_col, _, rfl, ?_⟩
        refine ⟨rfl, d, _, rfl, hd, .inl ⟨_, _, false, rfl, .own _, A'.kQ, ?_⟩⟩
        refine ⟨_, rfl, rfl, d, _, rfl, hd, .inl ⟨_, _, true, rfl, .own _, A'.tQ, _, rfl, ?_⟩⟩
        refine iteT ⟨_, rfl, rfl, d, _, rfl, hd, .inl ⟨_, _, true, rfl, .own _, A'.bQ, Nat.le_of_ble_eq_true rfl, fun t ht => ?_⟩⟩
        exact k t _ (same_new s1 ht) upd_same
end
end K01
/-! k01, part 11: _law_mix, _law_stream, _law_pick. -/
namespace K01
open PySem PySem.Spec PyProof.Rows L2
open TL (tl len_tl ext_tl tl_append)

/-! ### the draws: a dict with the row, the place, the seed -/
def kRow : Key := .inr "row"
def kAt : Key := .inr "at"
def kSeed : Key := .inr "seed"
def drw (l : Addr) (a s : Int) : List (Key × V) := [(kRow, .ref l), (kAt, .int a), (kSeed, .int s)]
theorem ne1 : ¬ kRow = kAt := by decide +kernel
theorem ne2 : ¬ kRow = kSeed := by decide +kernel
theorem ne3 : ¬ kAt = kSeed := by decide +kernel
theorem drw_row (l : Addr) (a s : Int) : valV (drw l a s) kRow = some (.ref l) := valV_pos rfl
theorem drw_at (l : Addr) (a s : Int) : valV (drw l a s) kAt = some (.int a) := by
  unfold drw
  rw [valV_neg ne1, valV_pos rfl]
theorem drw_seed (l : Addr) (a s : Int) : valV (drw l a s) kSeed = some (.int s) := by
  unfold drw
  rw [valV_neg ne2, valV_neg ne3, valV_pos rfl]
theorem drw_put (l : Addr) (a s b : Int) : putK (drw l a s) kAt (.int b) = drw l b s := by
  have h1 : ¬ kSeed = kAt := fun z => ne3 z.symm
  unfold putK drw
  have e : ([(kRow, V.ref l), (kAt, V.int a), (kSeed, V.int s)].any fun kv => decide (kv.1 = kAt)) = true := by simp
  rw [if_pos e]
  show [if kRow = kAt then (kRow, V.int b) else (kRow, V.ref l), if kAt = kAt then (kAt, V.int b) else (kAt, V.int a), if kSeed = kAt then (kSeed, V.int b) else (kSeed, V.int s)] = _
  rw [if_neg ne1, if_pos rfl, if_neg h1]
theorem drw_made (l : Addr) (a s : Int) : mergeK [] (drw l a s) = drw l a s := by
  have e1 : putK ([] : List (Key × V)) kRow (.ref l) = [(kRow, .ref l)] := putK_new _ rfl
  have e2 : putK ([(kRow, V.ref l)] : List (Key × V)) kAt (.int a) = [(kRow, .ref l), (kAt, .int a)] := putK_new _ (by rw [valV_neg ne1]; rfl)
  have e3 : putK ([(kRow, V.ref l), (kAt, .int a)] : List (Key × V)) kSeed (.int s) = [(kRow, .ref l), (kAt, .int a), (kSeed, .int s)] := putK_new _ (by rw [valV_neg ne2, valV_neg ne3]; rfl)
  show putK (putK (putK [] kRow (.ref l)) kAt (.int a)) kSeed (.int s) = _
  rw [e1, e2, e3]
  rfl
def DrawsAt (H : Hp) (p : Addr) : Prop := ∃ (l : Addr) (rs : List Int) (a : Nat) (s : Int), H p = some (.dK (drw l a s)) ∧ H l = some (.lst (rs.map V.int)) ∧ rs.length ≤ 200
/-- all that was tracked stands, but p -/
def But (p : Addr) (H H' : Hp) : Prop := ∀ b o, H b = some o → b ≠ p → H' b = some o
theorem DrawsAt.mono {H H' : Hp} {p : Addr} (h : DrawsAt H p) (s : Same H H') : DrawsAt H' p := by
  obtain ⟨l, rs, a, sd, h1, h2, h3⟩ := h
  exact ⟨l, rs, a, sd, s _ _ h1, s _ _ h2, h3⟩
theorem But.refl (p : Addr) (H : Hp) : But p H H := fun _ _ h _ => h
theorem But.trans {p : Addr} {H H1 H2 : Hp} (a : But p H H1) (b : But p H1 H2) : But p H H2 := fun c o h n => b c o (a c o h n) n
theorem But.of {p : Addr} {H H1 : Hp} (s : Same H H1) : But p H H1 := fun c o h _ => s c o h

/-! ### the promises -/
def spMix : Sp := fun vs H Q _ => ∃ a b : Int, vs = [.int a, .int b] ∧ ∀ m : Int, Q (.int m) H
def spStream (K : PySem.W.Frag) : Sp := fun vs H Q _ => ∃ (a : Addr) (ns : List Int), vs = [.ref a, .int 200] ∧ SqL K H a (ns.map V.int) ∧ ∀ (p : Addr) (H' : Hp), Same H H' → DrawsAt H' p → Q (.ref p) H'
def spPick : Sp := fun vs H Q _ => ∃ (p : Addr) (m : Int), vs = [.ref p, .int m] ∧ 0 < m ∧ DrawsAt H p ∧ ∀ (k : Int) (H' : Hp), 0 ≤ k → k < m → DrawsAt H' p → But p H H' → Q (.int k) H'
section
variable {P : Program} {w : World} {K : PySem.W.Frag} {mg : Str → Option Value} {base : Heap} {fI cB cC cN cQ : Addr}

/-! ### _law_mix -/
theorem scM : FnScope ["_law_cell", "_law_k", "_law_low"] ["_law_cell", "_law_k"] (defScope sMix) := ⟨rfl, rfl, rfl, by decide +kernel, rfl, by decide +kernel, by decide +kernel⟩
theorem ok_mix {f : Addr} {fd : FuncData} (F : Fun K "_law_mix" "_law_mix" sMix f fd) (T : Txt K mg fI cB cC cN cQ) : FnOk P w K mg base CX0 1 f fd ["_law_cell", "_law_k"] spMix := by
  refine F.ok scM (fun vs H Q E h => ?_) (fun cdv A outer s H vs Q E hr h => ?_)
  · obtain ⟨a, b, rfl, _⟩ := h
    rfl
  · obtain ⟨a, b, rfl, k⟩ := h
    refine ⟨_, pss_cons (ps_set (i := 2) scM.nd rfl (Or.inl rfl) (pe_op op_mod (pe_callTy call_int1 (by rfl) T.int (by decide +kernel) (pa_cons (pe_op op_add (pe_op op_add (pe_op op_mul (pv 0) pe_int) (pe_op op_mul (pv 1) pe_int)) pe_int) pa_nil)) pe_int))
      (pss_one (ps_ret (pe_op op_mod (pe_op op_mod (pe_callTy call_int1 (by rfl) T.int (by decide +kernel)
        (pa_cons (pe_op op_add (pe_op op_add (pe_op op_add (pe_op op_mul (pv 2) (pv 2)) (pe_op op_mul (pv 0) pe_int)) (pe_op op_mul (pv 1) pe_int)) pe_int) pa_nil)) pe_int) pe_int))), ?_⟩
    refine ⟨_, rfl, _, _, rfl, rfl, .inr ⟨by decide, by decide⟩, _, rfl, _, _, rfl, rfl, .inr ⟨by decide, by decide⟩, _, _, rfl, rfl, _, _, rfl, rfl, .inl ⟨_, rfl, _, _, rfl, rfl, (by show (0 : Int) < 2147483647; decide), ?_⟩⟩
    have b0 : (0 : Int) ≤ (a * 48271 + b * 69621 + 11) % 2147483647 := Int.emod_nonneg _ (by decide)
    have b1 : (a * 48271 + b * 69621 + 11) % 2147483647 < 2147483647 := Int.emod_lt_of_pos _ (by decide)
    dsimp only [gName]
    generalize (a * 48271 + b * 69621 + 11) % 2147483647 = low at b0 b1
    refine ⟨_, rfl, _, rfl, _, _, rfl, rfl, .inr ⟨by omega, by omega⟩, _, rfl, _, _, rfl, rfl, .inr ⟨by decide, by decide⟩, _, _, rfl, rfl, _, rfl, _, _, rfl, rfl, .inr ⟨by decide, by decide⟩, _, _, rfl, rfl, _, _, rfl, rfl,
      .inl ⟨_, rfl, _, _, rfl, rfl, (by show (0 : Int) < 1000003; decide), _, _, rfl, rfl, (by show (0 : Int) < 1000; decide), ?_⟩⟩
    exact k _

/-! ### _law_pick -/
theorem scP : FnScope ["_law_draws", "_law_many", "_law_at", "_law_number"] ["_law_draws", "_law_many"] (defScope sPick) := ⟨rfl, rfl, rfl, by decide +kernel, rfl, by decide +kernel, by decide +kernel⟩
theorem ok_pick {f fM : Addr} {fd fdM : FuncData} (F : Fun K "_law_pick" "_law_pick" sPick f fd) (T : Txt K mg fI cB cC cN cQ) (DM : Def K mg "_law_mix" sMix ["_law_cell", "_law_k"] fM fdM) : FnOk P w K mg base CX0 2 f fd ["_law_draws", "_law_many"] spPick := by
  refine F.ok scP (fun vs H Q E h => ?_) (fun cdv A outer s H vs Q E hr h => ?_)
  · obtain ⟨p, m, rfl, _⟩ := h
    rfl
  · obtain ⟨p, m, rfl, hm, ⟨l, rs, a, sd, hp, hl, hlen⟩, k⟩ := h
    have hu := hu_of hr
    have GM : FnOk P w K mg base CX0 1 fM fdM ["_law_cell", "_law_k"] spMix := ok_mix DM.F T
    refine ⟨_, pss_cons (ps_set (i := 2) scP.nd rfl (Or.inl rfl) (pe_dget hu (pv 0) pe_str (fun _ _ => rfl)))
      (pss_cons (ps_dput hu (pv 0) pe_str (pe_op op_add (pv 2) pe_int) rfl)
      (pss_cons (ps_set (i := 3) scP.nd rfl (Or.inl rfl) (pe_call GM hr rfl DM.g DM.F.kp DM.b .nil pass0 (pa_cons (pe_dget hu (pv 0) pe_str (fun _ _ => rfl)) (pa_cons (pv 2) pa_nil))))
      (pss_cons (ps_if (pt_cmpR op_lt (pv 2) (pe_callB call_len_seq (by rfl) T.len PySem.boot_len (pa_cons (pe_dget hu (pv 0) pe_str (fun _ _ => rfl)) pa_nil)) (nomark _))
        (pss_one (ps_set (i := 3) scP.nd rfl (Or.inl rfl) (pe_ix ix_list (pe_dget hu (pv 0) pe_str (fun _ _ => rfl)) (pv 2) (fun _ _ => rfl)))) pss_nil)
      (pss_one (ps_ret (pe_op op_mod (pe_callTy call_int1 (by rfl) T.int (by decide +kernel) (pa_cons (pv 3) pa_nil)) (pv 1))))))), ?_⟩
    have npl : p ≠ l := ne_of hp hl (fun z => nomatch z)
    have gAt : ∀ (H1 : Hp) (b : Int), H1 p = some (.dK (drw l b sd)) → DGet H1 p (.str "at") (some (.int b)) := fun H1 b h => by
      have g := DGet.k (k := kAt) h
      rw [drw_at] at g
      exact g
    have gRow : ∀ (H1 : Hp) (b : Int), H1 p = some (.dK (drw l b sd)) → DGet H1 p (.str "row") (some (.ref l)) := fun H1 b h => by
      have g := DGet.k (k := kRow) h
      rw [drw_row] at g
      exact g
    have gSeed : ∀ (H1 : Hp) (b : Int), H1 p = some (.dK (drw l b sd)) → DGet H1 p (.str "seed") (some (.int sd)) := fun H1 b h => by
      have g := DGet.k (k := kSeed) h
      rw [drw_seed] at g
      exact g
    have H1p : (upd H p (.dK (drw l ((a : Int) + 1) sd))) p = some (.dK (drw l ((a : Int) + 1) sd)) := upd_same
    have H1l : (upd H p (.dK (drw l ((a : Int) + 1) sd))) l = some (.lst (rs.map V.int)) := by rw [upd_ne npl.symm]; exact hl
    have put : DPut H p (.str "at") (.int ((a : Int) + 1)) (upd H p (.dK (drw l ((a : Int) + 1) sd))) := by
      have g := DPut.k (k := kAt) (v := .int ((a : Int) + 1)) hp (show 3 < sizeLine by decide)
      rw [drw_put] at g
      exact g
    have fin : ∀ x : Int, Q (.int (x % m)) (upd H p (.dK (drw l ((a : Int) + 1) sd))) := fun x =>
      k _ _ (Int.emod_nonneg _ (by omega)) (Int.emod_lt_of_pos _ hm) ⟨l, rs, a + 1, sd, by rw [show ((a + 1 : Nat) : Int) = (a : Int) + 1 by omega]; exact H1p, H1l, hlen⟩ fun b o e hb => by rw [upd_ne hb]; exact e
    refine ⟨_, rfl, p, _, rfl, gAt H a hp, ?_⟩
    dsimp only [gName, tSeq]
    refine ⟨_, rfl, _, _, rfl, rfl, _, rfl, p, _, rfl, put, ?_⟩
    refine ⟨_, rfl, p, _, rfl, gSeed _ _ H1p, _, rfl, _, _, rfl, fun mx => ?_⟩
    dsimp only [gName]
    refine Tells.iff (b := decide ((a : Int) < ((rs.map V.int).length : Int))) (fun Q q => ⟨_, rfl, _, rfl, p, _, rfl, gRow _ _ H1p, l, _, rfl, .inl (SqL.of H1l), _, _, rfl, rfl, _, rfl, q⟩) (fun hb => ?_) (fun hb => ?_)
    · have hlt := of_decide_eq_true hb
      rw [List.length_map] at hlt
      have ha : a < rs.length := by omega
      refine ⟨_, rfl, p, _, rfl, gRow _ _ H1p, _, rfl, l, _, _, .int rs[a], rfl, rfl, SqL.of H1l, atI_nat (by rw [List.getElem?_map, List.getElem?_eq_getElem ha]; rfl), ?_⟩
      dsimp only [gName]
      exact ⟨_, rfl, .inl ⟨_, rfl, _, rfl, _, _, rfl, rfl, hm, fin _⟩⟩
    · exact ⟨_, rfl, .inl ⟨_, rfl, _, rfl, _, _, rfl, rfl, hm, fin _⟩⟩

/-! ### _law_stream -/
theorem scSt : FnScope ["_law_script", "_law_most", "_law_row", "_law_k", "_law_rest", "_law_j"] ["_law_script", "_law_most"] (defScope sStream) := ⟨rfl, rfl, rfl, by decide +kernel, rfl, by decide +kernel, by decide +kernel⟩
/-- the row so far, at l -/
def RowAt (l : Addr) (H H' : Hp) : Prop := ∃ rs : List Int, H' l = some (.lst (rs.map V.int)) ∧ rs.length ≤ 200 ∧ Same H H'
theorem RowAt.more {l : Addr} {H H' : Hp} {rs : List Int} (hl : H l = none) (h1 : H' l = some (.lst (rs.map V.int))) (h2 : rs.length < 200) (s : Same H H') (x : Int) : RowAt l H (upd H' l (.lst (rs.map V.int ++ [.int x]))) := by
  refine ⟨rs ++ [x], ?_, ?_, fun b o e => ?_⟩
  · rw [upd_same, List.map_append]
    rfl
  · rw [List.length_append]
    exact h2
  · rw [upd_ne (ne_of_none e hl)]
    exact s b o e
theorem ok_stream {f fM : Addr} {fd fdM : FuncData} (F : Fun K "_law_stream" "_law_stream" sStream f fd) (T : Txt K mg fI cB cC cN cQ) (DM : Def K mg "_law_mix" sMix ["_law_cell", "_law_k"] fM fdM) : FnOk P w K mg base CX0 2 f fd ["_law_script", "_law_most"] (spStream K) := by
  refine F.ok scSt (fun vs H Q E h => ?_) (fun cdv A outer s H vs Q E hr h => ?_)
  · obtain ⟨a, ns, rfl, _⟩ := h
    rfl
  · obtain ⟨a, ns, rfl, hS, k⟩ := h
    have GM : FnOk P w K mg base CX0 1 fM fdM ["_law_cell", "_law_k"] spMix := ok_mix DM.F T
    refine ⟨_, pss_cons (ps_set (i := 2) scSt.nd rfl (Or.inl rfl) (pe_lst pa_nil))
      (pss_cons (ps_for PassesOwn.never rfl (pi_range1 (by rfl) T.range (pa_cons (pe_callB (call_min2 rfl) (by rfl) T.min (by decide +kernel) (pa_cons (pe_callB call_len_seq (by rfl) T.len PySem.boot_len (pa_cons (pv 0) pa_nil)) (pa_cons pe_int pa_nil))) pa_nil)) (pg_name (i := 3) scSt.nd rfl (Or.inl rfl))
        (pss_cons (ps_set (i := 4) scSt.nd rfl (Or.inl rfl) (pe_ix ix_list (pv 0) (pv 3) (fun _ _ => rfl)))
        (pss_one (ps_if (pt_cmpR op_ge (pv 4) (pe_op op_pow pe_int pe_int) (nomark _))
          (pss_one (ps_for PassesOwn.never rfl (pi_range1 (by rfl) T.range (pa_cons pe_int pa_nil)) (pg_name (i := 5) scSt.nd rfl (Or.inl rfl))
            (pss_one (ps_if (PW.pt (pw_and (pt_cmpR op_gt (pv 4) pe_int (nomark _)) (pw_and1 (pt_cmpR op_lt (pe_callB call_len_seq (by rfl) T.len PySem.boot_len (pa_cons (pv 2) pa_nil)) (pv 1) (nomark _)))))
              (pss_cons (ps_expr (pe_bm PySem.F.plainAttrs_list PySem.F.slot_list_append PySem.F.type_list_append mt_append (pv 2) (pa_cons (pe_op op_mod (pe_callTy call_int1 (by rfl) T.int (by decide +kernel) (pa_cons (pv 4) pa_nil)) pe_int) pa_nil)))
              (pss_one (ps_set (i := 4) scSt.nd rfl (Or.inl rfl) (pe_op op_fdiv (pv 4) pe_int)))) pss_nil))))
          (pss_one (ps_for PassesOwn.never rfl (pi_range1 (by rfl) T.range (pa_cons pe_int pa_nil)) (pg_name (i := 5) scSt.nd rfl (Or.inl rfl))
            (pss_one (ps_if (pt_cmpR op_lt (pe_callB call_len_seq (by rfl) T.len PySem.boot_len (pa_cons (pv 2) pa_nil)) (pv 1) (nomark _))
              (pss_one (ps_expr (pe_bm PySem.F.plainAttrs_list PySem.F.slot_list_append PySem.F.type_list_append mt_append (pv 2) (pa_cons (pe_call GM hr rfl DM.g DM.F.kp DM.b .nil pass0 (pa_cons (pv 4) (pa_cons (pe_op op_add (pe_op op_mul pe_int (pv 5)) (pv 3)) pa_nil))) pa_nil)))) pss_nil))))))))
      (pss_one (ps_ret (pe_disp (pps_cons pe_str (pv 2) (pps_cons pe_str pe_int (pps_cons pe_str (pe_callB call_len_seq (by rfl) T.len PySem.boot_len (pa_cons (pv 2) pa_nil)) pps_nil))) (by rfl) (by rfl) (fun z => by cases z) (by decide))))), ?_⟩
    refine ⟨Nat.zero_le _, fun l hl => ?_⟩
    dsimp only [gName, tSeq]
    have s0 : Same H (upd H l (.lst [])) := same_new (Same.refl H) hl
    have hbound : (if (63 : Int) < ((ns.map V.int).length : Int) then (63 : Int) else ((ns.map V.int).length : Int)) ≤ 63 := by split <;> omega
    have hbound2 : (if (63 : Int) < ((ns.map V.int).length : Int) then (63 : Int) else ((ns.map V.int).length : Int)) ≤ ((ns.map V.int).length : Int) := by split <;> omega
    have hbound0 : 0 ≤ (if (63 : Int) < ((ns.map V.int).length : Int) then (63 : Int) else ((ns.map V.int).length : Int)) := by split <;> omega
    refine ⟨_, rfl, a, _, rfl, .inl (s0.seq hS), _, _, rfl, ?_⟩
    generalize (if (63 : Int) < ((ns.map V.int).length : Int) then (63 : Int) else ((ns.map V.int).length : Int)) = many at hbound hbound2 hbound0
    refine ⟨many, rfl, by omega, by omega, for_range (lo := 0) (n := many.toNat) (fun i σ H' => (∃ v3 v4 v5, σ = [some (.ref a), some (.int 200), some (.ref l), v3, v4, v5]) ∧ RowAt l H H') ⟨⟨_, _, _, rfl⟩, [], upd_same, Nat.zero_le _, s0⟩ ?_ ?_⟩
    · rintro i σ H1 hi ⟨⟨v3, v4, v5, rfl⟩, rs, hr1, hlen, s1⟩
      have hin : i < ns.length := by
        rw [List.length_map] at hbound2
        omega
      have hat : atI (ns.map V.int) ((0 : Int) + (i : Int)) = some (.int ns[i]) := by
        rw [Int.zero_add]
        exact atI_nat (by rw [List.getElem?_map, List.getElem?_eq_getElem hin]; rfl)
      refine ⟨_, rfl, _, rfl, a, _, _, _, rfl, rfl, s1.seq hS, hat, ?_⟩
      dsimp only [gName]
      generalize ns[i] = cell
      refine Tells.iff (b := decide ((10 : Int) ^ (18 : Int).toNat ≤ cell)) (fun Q q => ⟨_, rfl, _, _, rfl, rfl, ⟨by decide, by decide, by decide⟩, _, _, rfl, rfl, _, rfl, q⟩) (fun _ => ?_) (fun _ => ?_)
      · refine ⟨60, rfl, by decide, by decide, for_range (lo := 0) (n := 60) (fun j σ H' => (∃ (x : Int) (v5 : Option V), σ = [some (.ref a), some (.int 200), some (.ref l), some (.int (0 + (i : Int))), some (.int x), v5]) ∧ RowAt l H H') ⟨⟨_, _, rfl⟩, rs, hr1, hlen, s1⟩ ?_ ?_⟩
        · rintro j σ H2 hj ⟨⟨x, v5, rfl⟩, rs2, hr2, hlen2, s2⟩
          refine Tells.iff (b := decide ((0 : Int) < x) && decide (((rs2.map V.int).length : Int) < 200)) (Tells.and (fun Q q => ⟨_, rfl, _, _, rfl, rfl, _, rfl, q⟩) fun _ => fun Q q => ⟨_, rfl, l, _, rfl, .inl (SqL.of hr2), _, rfl, _, _, rfl, rfl, _, rfl, q⟩) (fun hb => ?_) (fun hb => ?_)
          · have hlt := of_decide_eq_true (Bool.and_eq_true_iff.mp hb).2
            rw [List.length_map] at hlt
            have hlt2 : rs2.length < 200 := by omega
            refine ⟨_, rfl, .inl ⟨rfl, _, SqL.of hr2⟩, _, rfl, .inl ⟨_, rfl, _, _, rfl, rfl, (by show (0 : Int) < 1000; decide), l, _, _, rfl, rfl, hr2, by rw [List.length_map, sizeLine_eq]; omega, ?_⟩⟩
            refine ⟨_, rfl, _, _, rfl, rfl, ⟨by decide, by decide⟩, ⟨_, _, rfl⟩, ?_⟩
            exact RowAt.more hl hr2 hlt2 s2 _
          · exact ⟨⟨_, _, rfl⟩, rs2, hr2, hlen2, s2⟩
        · rintro σ H2 ⟨⟨x, v5, rfl⟩, rw2⟩
          exact ⟨⟨_, _, _, rfl⟩, rw2⟩
      · refine ⟨3, rfl, by decide, by decide, for_range (lo := 0) (n := 3) (fun j σ H' => (∃ (v5 : Option V), σ = [some (.ref a), some (.int 200), some (.ref l), some (.int (0 + (i : Int))), some (.int cell), v5]) ∧ RowAt l H H') ⟨⟨_, rfl⟩, rs, hr1, hlen, s1⟩ ?_ ?_⟩
        · rintro j σ H2 hj ⟨⟨v5, rfl⟩, rs2, hr2, hlen2, s2⟩
          refine Tells.iff (b := decide (((rs2.map V.int).length : Int) < 200)) (fun Q q => ⟨_, rfl, l, _, rfl, .inl (SqL.of hr2), _, rfl, _, _, rfl, rfl, _, rfl, q⟩) (fun hb => ?_) (fun hb => ?_)
          · have hlt := of_decide_eq_true hb
            rw [List.length_map] at hlt
            have hlt2 : rs2.length < 200 := by omega
            refine ⟨_, rfl, .inl ⟨rfl, _, SqL.of hr2⟩, _, rfl, _, rfl, _, _, rfl, rfl, .inl ⟨by decide, by decide⟩, _, rfl, _, _, rfl, rfl, _, _, rfl, fun mx => ⟨l, _, _, rfl, rfl, hr2, by rw [List.length_map, sizeLine_eq]; omega, ⟨_, rfl⟩, ?_⟩⟩
            exact RowAt.more hl hr2 hlt2 s2 _
          · exact ⟨⟨_, rfl⟩, rs2, hr2, hlen2, s2⟩
        · rintro σ H2 ⟨⟨v5, rfl⟩, rw2⟩
          exact ⟨⟨_, _, _, rfl⟩, rw2⟩
    · rintro σ H1 ⟨⟨v3, v4, v5, rfl⟩, rs, hr1, hlen, s1⟩
      intro p hp
      have npl : l ≠ p := ne_of_none hr1 hp
      have hr2 : (upd H1 p (.dK [])) l = some (.lst (rs.map V.int)) := by rw [upd_ne npl]; exact hr1
      refine ⟨_, rfl, _, rfl, l, _, rfl, .inl (SqL.of hr2), upd_same, drw l 0 ((rs.map V.int).length : Int), rfl, (show 3 ≤ 15 by decide), ?_⟩
      rw [drw_made, upd_upd]
      refine k p _ (same_new s1 hp) ⟨l, rs, 0, _, upd_same, by rw [upd_ne npl]; exact hr1, hlen⟩
end
end K01
/-! k01, part 12: _law_good, _law_bad, _law_between. -/
namespace K01
open PySem PySem.Spec PyProof.Rows L2
open TL (tl len_tl ext_tl tl_append)

/-- every item is a text of the kind -/
def Texts (R : Str → Prop) : List V → Prop
  | [] => True
  | v :: r => (∃ x, v = .str x ∧ R x) ∧ Texts R r
theorem Texts.at {R : Str → Prop} : ∀ {l : List V} {n : Nat}, Texts R l → n < l.length → ∃ x, l[n]? = some (.str x) ∧ R x
  | [], n, _, h => absurd h (Nat.not_lt_zero n)
  | v :: r, 0, h, _ => by
    obtain ⟨⟨x, rfl, hx⟩, _⟩ := h
    exact ⟨x, rfl, hx⟩
  | v :: r, n + 1, h, hn => Texts.at (l := r) h.2 (Nat.lt_of_succ_lt_succ hn)
theorem Texts.pick {R : Str → Prop} {l : List V} {k : Int} (h : Texts R l) (h0 : 0 ≤ k) (h1 : k < (l.length : Int)) : ∃ x, atI l k = some (.str x) ∧ R x := by
  obtain ⟨x, e, hx⟩ := h.at (n := k.toNat) (by omega)
  refine ⟨x, ?_, hx⟩
  have := atI_nat e
  rwa [Int.toNat_of_nonneg h0] at this

/-- a bad word of its kind -/
inductive BadW : Bad → Str → Prop
  | chr {x : Str} (h : tl x ∈ BCHR) : BadW .chr x
  | num {x : Str} (h : tl x ∈ BNUM) : BadW .num x
  | quo {x : Str} (h : tl x ∈ BQUO) : BadW .quo x
  | opn {x : Str} (h : tl x ∈ BOPN) : BadW .quo x
abbrev big1 : Str := toString ((2 : Int) ^ (63 : Int).toNat - 1)
abbrev big2 : Str := toString ((2 : Int) ^ (63 : Int).toNat)
abbrev long33 : Str := ("\"" ++ Txt.mul "a" 33) ++ "\""
def goodV : List V := [.str "a", .str "go_", .str "\"x y\"", .str "10", .str "probe", .str "int", .str "&&", .str "<=", .str ".", .str "(", .str "}", .str ",", .str "x_1", .str big1, .str "0", .str "\"\""]
def sepsV : List V := [.str " ", .str "\n", .str "  ", .str "\n # _ 01 \" !\n", .str " #\n  "]
def chrV : List V := [.str "_", .str "'", .str "$", .str "^", .str "~", .str "|", .str "&", .str "&+", .str "|x", .str "_a", .str "\t", .str "\ta", .str "$x"]
def numV : List V := [.str "01", .str "00", .str "1a", .str "2_", .str "3_4", .str big2, .str "99999999999999999999", .str "0x", .str "7A", .str "10int"]
def quoV : List V := [.str "\"", .str "\"abc", .str "\"a\nb\"", .str long33, .str "\"x\t\"", .str "\"\ty\"", .str "\"\n\""]
theorem good_texts : Texts (fun x => tl x ∈ GOOD) goodV := by
  refine ⟨⟨_, rfl, ?_⟩, ⟨_, rfl, ?_⟩, ⟨_, rfl, ?_⟩, ⟨_, rfl, ?_⟩, ⟨_, rfl, ?_⟩, ⟨_, rfl, ?_⟩, ⟨_, rfl, ?_⟩, ⟨_, rfl, ?_⟩, ⟨_, rfl, ?_⟩, ⟨_, rfl, ?_⟩, ⟨_, rfl, ?_⟩, ⟨_, rfl, ?_⟩, ⟨_, rfl, ?_⟩, ⟨_, rfl, ?_⟩, ⟨_, rfl, ?_⟩, ⟨_, rfl, ?_⟩, trivial⟩
  all_goals decide +kernel
theorem seps_texts : Texts (fun x => tl x ∈ SEPS) sepsV := by
  refine ⟨⟨_, rfl, ?_⟩, ⟨_, rfl, ?_⟩, ⟨_, rfl, ?_⟩, ⟨_, rfl, ?_⟩, ⟨_, rfl, ?_⟩, trivial⟩
  all_goals decide +kernel
theorem chr_texts : Texts (BadW .chr) chrV := by
  refine ⟨⟨_, rfl, .chr ?_⟩, ⟨_, rfl, .chr ?_⟩, ⟨_, rfl, .chr ?_⟩, ⟨_, rfl, .chr ?_⟩, ⟨_, rfl, .chr ?_⟩, ⟨_, rfl, .chr ?_⟩, ⟨_, rfl, .chr ?_⟩, ⟨_, rfl, .chr ?_⟩, ⟨_, rfl, .chr ?_⟩, ⟨_, rfl, .chr ?_⟩, ⟨_, rfl, .chr ?_⟩, ⟨_, rfl, .chr ?_⟩, ⟨_, rfl, .chr ?_⟩, trivial⟩
  all_goals decide +kernel
theorem num_texts : Texts (BadW .num) numV := by
  refine ⟨⟨_, rfl, .num ?_⟩, ⟨_, rfl, .num ?_⟩, ⟨_, rfl, .num ?_⟩, ⟨_, rfl, .num ?_⟩, ⟨_, rfl, .num ?_⟩, ⟨_, rfl, .num ?_⟩, ⟨_, rfl, .num ?_⟩, ⟨_, rfl, .num ?_⟩, ⟨_, rfl, .num ?_⟩, ⟨_, rfl, .num ?_⟩, trivial⟩
  all_goals decide +kernel
theorem quo_texts : Texts (BadW .quo) quoV := by
  refine ⟨⟨_, rfl, .opn ?_⟩, ⟨_, rfl, .opn ?_⟩, ⟨_, rfl, .quo ?_⟩, ⟨_, rfl, .quo ?_⟩, ⟨_, rfl, .quo ?_⟩, ⟨_, rfl, .quo ?_⟩, ⟨_, rfl, .quo ?_⟩, trivial⟩
  all_goals decide +kernel

def spGood : Sp := fun vs H Q _ => ∃ p : Addr, vs = [.ref p] ∧ DrawsAt H p ∧ ∀ (x : Str) (H' : Hp), tl x ∈ GOOD → DrawsAt H' p → But p H H' → Q (.str x) H'
def spBetw : Sp := fun vs H Q _ => ∃ p : Addr, vs = [.ref p] ∧ DrawsAt H p ∧ ∀ (x : Str) (H' : Hp), tl x ∈ SEPS → DrawsAt H' p → But p H H' → Q (.str x) H'
def spBad : Sp := fun vs H Q _ => ∃ p : Addr, vs = [.ref p] ∧ DrawsAt H p ∧ ∀ (b : Bad) (x : Str) (t : Addr) (H' : Hp), BadW b x → H' t = some (.tup [.str (kindOf b), .str x]) → DrawsAt H' p → But p H H' → Q (.ref t) H'
theorem DrawsAt.ne {H : Hp} {p q : Addr} (h : DrawsAt H p) (hq : H q = none) : q ≠ p := fun z => by
  obtain ⟨l, rs, a, s, h1, _⟩ := h
  rw [z, h1] at hq
  cases hq
section
variable {P : Program} {w : World} {K : PySem.W.Frag} {mg : Str → Option Value} {base : Heap} {fI cB cC cN cQ : Addr}

/-! ### _law_good -/
theorem scG : FnScope ["_law_draws", "_law_words"] ["_law_draws"] (defScope sGood) := ⟨rfl, rfl, rfl, by decide +kernel, rfl, by decide +kernel, by decide +kernel⟩
theorem ok_good {f fM fP : Addr} {fd fdM fdP : FuncData} (F : Fun K "_law_good" "_law_good" sGood f fd) (T : Txt K mg fI cB cC cN cQ) (DM : Def K mg "_law_mix" sMix ["_law_cell", "_law_k"] fM fdM) (DP : Def K mg "_law_pick" sPick ["_law_draws", "_law_many"] fP fdP) :
    FnOk P w K mg base CX0 3 f fd ["_law_draws"] spGood := by
  refine F.ok scG (fun vs H Q E h => ?_) (fun cdv A outer s H vs Q E hr h => ?_)
  · obtain ⟨p, rfl, _⟩ := h
    rfl
  · obtain ⟨p, rfl, D, k⟩ := h
    have GP : FnOk P w K mg base CX0 2 fP fdP ["_law_draws", "_law_many"] spPick := ok_pick DP.F T DM
    refine ⟨_, pss_cons (ps_set (i := 1) scG.nd rfl (Or.inl rfl) (pe_lst (pa_cons pe_str (pa_cons pe_str (pa_cons pe_str (pa_cons pe_str (pa_cons pe_str (pa_cons pe_str (pa_cons pe_str (pa_cons pe_str (pa_cons pe_str (pa_cons pe_str (pa_cons pe_str (pa_cons pe_str (pa_cons pe_str
        (pa_cons (pe_callTy call_str_int (by rfl) T.str (by decide +kernel) (pa_cons (pe_op op_sub (pe_op op_pow pe_int pe_int) pe_int) pa_nil)) (pa_cons pe_str (pa_cons pe_str pa_nil))))))))))))))))))
      (pss_one (ps_ret (pe_ix ix_list (pv 1) (pe_call GP hr rfl DP.g DP.F.kp DP.b .nil pass0 (pa_cons (pv 0) (pa_cons pe_int pa_nil))) (fun _ _ => rfl)))), ?_⟩
    refine ⟨_, _, rfl, rfl, ⟨by decide, by decide, by decide⟩, _, _, rfl, rfl, _, rfl, by decide +kernel, Nat.le_of_ble_eq_true rfl, fun l hl => ?_⟩
    dsimp only [gName]
    refine ⟨_, rfl, _, rfl, p, 16, rfl, by decide, D.mono (same_new (Same.refl H) hl), fun i H1 h0 h1 D1 kp => ?_⟩
    obtain ⟨x, e, hx⟩ := good_texts.pick h0 h1
    refine ⟨l, goodV, i, _, rfl, rfl, SqL.of (kp l _ upd_same (D.ne hl)), e, k x H1 hx D1 ((But.of (same_new (Same.refl H) hl)).trans kp)⟩

/-! ### _law_between -/
theorem scB : FnScope ["_law_draws"] ["_law_draws"] (defScope sBetw) := ⟨rfl, rfl, rfl, by decide +kernel, rfl, by decide +kernel, by decide +kernel⟩
theorem ok_betw {f fM fP : Addr} {fd fdM fdP : FuncData} (F : Fun K "_law_between" "_law_between" sBetw f fd) (T : Txt K mg fI cB cC cN cQ) (DM : Def K mg "_law_mix" sMix ["_law_cell", "_law_k"] fM fdM) (DP : Def K mg "_law_pick" sPick ["_law_draws", "_law_many"] fP fdP) :
    FnOk P w K mg base CX0 3 f fd ["_law_draws"] spBetw := by
  refine F.ok scB (fun vs H Q E h => ?_) (fun cdv A outer s H vs Q E hr h => ?_)
  · obtain ⟨p, rfl, _⟩ := h
    rfl
  · obtain ⟨p, rfl, D, k⟩ := h
    have GP : FnOk P w K mg base CX0 2 fP fdP ["_law_draws", "_law_many"] spPick := ok_pick DP.F T DM
    refine ⟨_, pss_one (ps_ret (pe_ix ix_list (pe_lst (pa_cons pe_str (pa_cons pe_str (pa_cons pe_str (pa_cons pe_str (pa_cons pe_str pa_nil)))))) (pe_call GP hr rfl DP.g DP.F.kp DP.b .nil pass0 (pa_cons (pv 0) (pa_cons pe_int pa_nil))) (fun _ _ => rfl))), ?_⟩
    refine ⟨Nat.le_of_ble_eq_true rfl, fun l hl => ?_⟩
    refine ⟨_, rfl, p, 5, rfl, by decide, D.mono (same_new (Same.refl H) hl), fun i H1 h0 h1 D1 kp => ?_⟩
    obtain ⟨x, e, hx⟩ := seps_texts.pick h0 h1
    refine ⟨l, sepsV, i, _, rfl, rfl, SqL.of (kp l _ upd_same (D.ne hl)), e, k x H1 hx D1 ((But.of (same_new (Same.refl H) hl)).trans kp)⟩

/-! ### _law_bad -/
theorem scBd : FnScope ["_law_draws", "_law_pick_here", "_law_signs", "_law_words", "_law_quotes"] ["_law_draws"] (defScope sBad) := ⟨rfl, rfl, rfl, by decide +kernel, rfl, by decide +kernel, by decide +kernel⟩
theorem ok_bad {f fM fP : Addr} {fd fdM fdP : FuncData} (F : Fun K "_law_bad" "_law_bad" sBad f fd) (T : Txt K mg fI cB cC cN cQ) (DM : Def K mg "_law_mix" sMix ["_law_cell", "_law_k"] fM fdM) (DP : Def K mg "_law_pick" sPick ["_law_draws", "_law_many"] fP fdP) :
    FnOk P w K mg base CX0 3 f fd ["_law_draws"] spBad := by
  refine F.ok scBd (fun vs H Q E h => ?_) (fun cdv A outer s H vs Q E hr h => ?_)
  · obtain ⟨p, rfl, _⟩ := h
    rfl
  · obtain ⟨p, rfl, D, k⟩ := h
    have GP : FnOk P w K mg base CX0 2 fP fdP ["_law_draws", "_law_many"] spPick := ok_pick DP.F T DM
    refine ⟨_, pss_cons (ps_set (i := 1) scBd.nd rfl (Or.inl rfl) (pe_call GP hr rfl DP.g DP.F.kp DP.b .nil pass0 (pa_cons (pv 0) (pa_cons pe_int pa_nil))))
      (pss_cons (ps_if (pt_cmpR op_eq (pv 1) pe_int (nomark _))
        (pss_cons (ps_set (i := 2) scBd.nd rfl (Or.inl rfl) (pe_lst (pa_cons pe_str (pa_cons pe_str (pa_cons pe_str (pa_cons pe_str (pa_cons pe_str (pa_cons pe_str (pa_cons pe_str (pa_cons pe_str (pa_cons pe_str (pa_cons pe_str (pa_cons pe_str (pa_cons pe_str (pa_cons pe_str pa_nil)))))))))))))))
        (pss_one (ps_ret (pe_tup (pa_cons pe_str (pa_cons (pe_ix ix_list (pv 2) (pe_call GP hr rfl DP.g DP.F.kp DP.b .nil pass0 (pa_cons (pv 0) (pa_cons pe_int pa_nil))) (fun _ _ => rfl)) pa_nil)))))) pss_nil)
      (pss_cons (ps_if (pt_cmpR op_eq (pv 1) pe_int (nomark _))
        (pss_cons (ps_set (i := 3) scBd.nd rfl (Or.inl rfl) (pe_lst (pa_cons pe_str (pa_cons pe_str (pa_cons pe_str (pa_cons pe_str (pa_cons pe_str (pa_cons (pe_callTy call_str_int (by rfl) T.str (by decide +kernel) (pa_cons (pe_op op_pow pe_int pe_int) pa_nil)) (pa_cons pe_str (pa_cons pe_str (pa_cons pe_str (pa_cons pe_str pa_nil))))))))))))
        (pss_one (ps_ret (pe_tup (pa_cons pe_str (pa_cons (pe_ix ix_list (pv 3) (pe_call GP hr rfl DP.g DP.F.kp DP.b .nil pass0 (pa_cons (pv 0) (pa_cons pe_int pa_nil))) (fun _ _ => rfl)) pa_nil)))))) pss_nil)
      (pss_cons (ps_set (i := 4) scBd.nd rfl (Or.inl rfl) (pe_lst (pa_cons pe_str (pa_cons pe_str (pa_cons pe_str (pa_cons (pe_op op_add_str (pe_op op_add_str pe_str (pe_op op_mulS pe_str pe_int)) pe_str) (pa_cons pe_str (pa_cons pe_str (pa_cons pe_str pa_nil)))))))))
      (pss_one (ps_ret (pe_tup (pa_cons pe_str (pa_cons (pe_ix ix_list (pv 4) (pe_call GP hr rfl DP.g DP.F.kp DP.b .nil pass0 (pa_cons (pv 0) (pa_cons pe_int pa_nil))) (fun _ _ => rfl)) pa_nil)))))))), ?_⟩
    refine ⟨_, rfl, p, 3, rfl, by decide, D, fun i0 H1 _ _ D1 kp1 => ?_⟩
    dsimp only [gName, tSeq]
    -- the end of each way
    have fin : ∀ (b : Bad) (xs : List V) (l : Addr) (H2 : Hp) (i : Int), H1 l = none → But p (upd H1 l (.lst xs)) H2 → DrawsAt H2 p → Texts (BadW b) xs → 0 ≤ i → i < (xs.length : Int) →
        ∃ v, atI xs i = some v ∧ SqL K H2 l xs ∧ ∀ t, H2 t = none → Q (.ref t) (upd H2 t (.tup [.str (kindOf b), v])) := by
      intro b xs l H2 i hl kp D2 tx h0 h1
      obtain ⟨x, e, hx⟩ := tx.pick h0 h1
      refine ⟨_, e, SqL.of (kp l _ upd_same (D1.ne hl)), fun t ht => ?_⟩
      exact k b x t _ hx upd_same (D2.mono (same_new (Same.refl H2) ht)) (((kp1.trans (But.of (same_new (Same.refl H1) hl))).trans kp).trans (But.of (same_new (Same.refl H2) ht)))
    refine Tells.iff (b := decide (V.int i0 = V.int 0)) (fun Q q => ⟨_, rfl, rfl, _, rfl, q⟩) (fun _ => ?_) (fun _ => ?_)
    · refine ⟨Nat.le_of_ble_eq_true rfl, fun l hl => ?_⟩
      dsimp only [gName]
      refine ⟨_, rfl, _, rfl, p, 13, rfl, by decide, D1.mono (same_new (Same.refl H1) hl), fun i H2 h0 h1 D2 kp2 => ?_⟩
      obtain ⟨v, e, sq, q⟩ := fin .chr chrV l H2 i hl kp2 D2 chr_texts h0 h1
      exact ⟨l, chrV, i, v, rfl, rfl, sq, e, Nat.le_of_ble_eq_true rfl, q⟩
    · dsimp only [tNext]
      refine Tells.iff (b := decide (V.int i0 = V.int 1)) (fun Q q => ⟨_, rfl, rfl, _, rfl, q⟩) (fun _ => ?_) (fun _ => ?_)
      · refine ⟨_, _, rfl, rfl, ⟨by decide, by decide, by decide⟩, _, rfl, by decide +kernel, Nat.le_of_ble_eq_true rfl, fun l hl => ?_⟩
        dsimp only [gName]
        refine ⟨_, rfl, _, rfl, p, 10, rfl, by decide, D1.mono (same_new (Same.refl H1) hl), fun i H2 h0 h1 D2 kp2 => ?_⟩
        obtain ⟨v, e, sq, q⟩ := fin .num numV l H2 i hl kp2 D2 num_texts h0 h1
        exact ⟨l, numV, i, v, rfl, rfl, sq, e, Nat.le_of_ble_eq_true rfl, q⟩
      · dsimp only [tNext]
        refine ⟨_, 33, rfl, rfl, mulOk_of 16 1048576 (by decide +kernel) (by decide) (by decide) (by decide) (by decide), _, _, rfl, rfl, by decide +kernel, _, _, rfl, rfl, by decide +kernel, Nat.le_of_ble_eq_true rfl, fun l hl => ?_⟩
        dsimp only [gName]
        refine ⟨_, rfl, _, rfl, p, 7, rfl, by decide, D1.mono (same_new (Same.refl H1) hl), fun i H2 h0 h1 D2 kp2 => ?_⟩
        obtain ⟨v, e, sq, q⟩ := fin .quo quoV l H2 i hl kp2 D2 quo_texts h0 h1
        exact ⟨l, quoV, i, v, rfl, rfl, sq, e, Nat.le_of_ble_eq_true rfl, q⟩
end
end K01
/-! k01, part 13: law. -/
namespace K01
open PySem PySem.Spec PyProof.Rows L2
open TL (tl len_tl ext_tl tl_append)

/-- a statement and what stands behind it, joined by a word -/
def tJoin (t u : TS) : TS := fun D σ H => ∃ Pv : L2.St → Hp → Prop, t { D with nx := Pv } σ H ∧ ∀ σ' H', Pv σ' H' → u D σ' H'
theorem pss_join {X : Cx} {st : Stmt} {rest : List Stmt} {t u : TS} (h1 : PS X st t) (h2 : PSs X rest u) : PSs X (st :: rest) (tJoin t u) := by
  refine ⟨fun pins s σ H D I ⟨Pv, a, b⟩ => wpAny_execs_cons (thn (h1.run pins s σ H _ I a) fun f s1 q => ?_)⟩
  cases f with
  | next =>
    obtain ⟨σ', H', J, q⟩ := q
    exact h2.run pins s1 σ' H' D J (b _ _ q)
  | ret v => exact q
  | brk => exact q
  | cont => exact q

theorem len_app (x y : Str) : (x ++ y).length = x.length + y.length := by rw [len_tl, len_tl, len_tl, tl_append, List.length_append]
theorem bad_tok {b : Bad} {x : Str} (h : BadW b x) : Plain (tl x) ∧ x.length ≤ 35 ∧ ∀ r, Stop r → (tl x ∈ BOPN → r = [10]) → tokLen (tl x ++ r) = .error b := by
  cases h with
  | chr h =>
    obtain ⟨h1, h2, h3⟩ := chr_bad _ h
    exact ⟨h2, by rw [len_tl]; exact h3, fun r hr _ => h1 r hr⟩
  | num h =>
    obtain ⟨h1, h2, h3⟩ := num_bad _ h
    exact ⟨h2, by rw [len_tl]; exact h3, fun r hr _ => h1 r hr⟩
  | quo h =>
    obtain ⟨h1, h2, h3⟩ := quo_bad _ h
    exact ⟨h2, by rw [len_tl]; exact h3, fun r _ _ => h1 r⟩
  | opn h =>
    obtain ⟨h1, h2, h3⟩ := opn_bad _ h
    exact ⟨h2, by rw [len_tl]; exact h3, fun r _ hr => by rw [hr h]; exact h1⟩
def opnS : List Str := ["\"", "\"abc"]
theorem opn_tl : opnS.map tl = BOPN := by decide +kernel
theorem in_opn {s : Str} : inV (.str s) [.str "\"", .str "\"abc"] = decide (tl s ∈ BOPN) := by
  rw [← opn_tl]
  exact in_strs (ws := opnS)
theorem seps2_texts : Texts (fun x => tl x = [32] ∨ tl x = [10]) [.str " ", .str "\n"] := by
  refine ⟨⟨_, rfl, ?_⟩, ⟨_, rfl, ?_⟩, trivial⟩
  all_goals decide +kernel
theorem more_texts {g : Str} (hg : tl g ∈ GOOD) : Texts (fun x => x.length ≤ 19) [.str g, .str "$", .str "02", .str "_"] := by
  refine ⟨⟨_, rfl, ?_⟩, ⟨_, rfl, by decide +kernel⟩, ⟨_, rfl, by decide +kernel⟩, ⟨_, rfl, by decide +kernel⟩, trivial⟩
  show g.length ≤ 19
  rw [len_tl]
  exact (good_ok _ hg).2.2.2
theorem not_ne {d : PyData} (h : SeqAt.shaped d = true) {A B : Prop} (b : B) : if (!PyData.eqv d d) = true then A else B := by
  rw [SeqAt.eqv_refl d (SeqAt.canLay_of_shaped h)]
  exact iteF b
theorem shaped2 {x : Str} (hx : PyData.strOk x = true) (i : Int) : SeqAt.shaped (.tuple [.str x, .int i]) = true := by simp [SeqAt.shaped, PyData.canLay0, PyData.canLayAll0, PyData.depth, PyData.depthAll, hx]
theorem shaped5 {x : Str} (hx : PyData.strOk x = true) (i j : Int) : SeqAt.shaped (.tuple [.str x, .int i, .int j, .bool false, .bool true]) = true := by simp [SeqAt.shaped, PyData.canLay0, PyData.canLayAll0, PyData.depth, PyData.depthAll, hx]
theorem strOk_tokens : PyData.strOk ("tokens" : Str) = true := by decide +kernel
theorem strOk_kind (b : Bad) : PyData.strOk (kindOf b) = true := by cases b <;> decide +kernel
theorem tl_nil : tl ("" : Str) = [] := by decide +kernel
theorem tl_nl : tl ("\n" : Str) = [10] := by decide +kernel
theorem stop_more {r s y : List Nat} (h : Stop r) (hs : s = [32] ∨ s = [10]) : Stop (r ++ s ++ y) := by
  rcases h with h | ⟨q, h⟩ | ⟨q, h⟩
  · subst h
    rcases hs with hs | hs
    · exact .inr (.inr ⟨y, by rw [hs]; rfl⟩)
    · exact .inr (.inl ⟨y, by rw [hs]; rfl⟩)
  · exact .inr (.inl ⟨q ++ s ++ y, by rw [h]; rfl⟩)
  · exact .inr (.inr ⟨q ++ s ++ y, by rw [h]; rfl⟩)

def spLaw (K : PySem.W.Frag) : Sp := fun vs H Q _ => ∃ (a : Addr) (ns : List Int), vs = [.ref a] ∧ SqL K H a (ns.map V.int) ∧ ∀ H', Q (.bl true) H'
section
variable {P : Program} {w : World} {K : PySem.W.Frag} {mg : Str → Option Value} {base : Heap} {fI cB cT cC cN cQ cU : Addr}
theorem scL : FnScope ["_law_script", "_law_draws", "_law_text", "_law_many", "_law_k", "_law_turn", "_law_kind", "_law_word", "_law_row", "_law_column", "_law_rest"] ["_law_script"] (defScope sLaw) := ⟨rfl, rfl, rfl, by decide +kernel, rfl, by decide +kernel, by decide +kernel⟩
theorem ok_law {f fW fN fK fQ fS fT fC fX fM fSt fP fG fBd fB fTo : Addr} {fd fdI fdW fdN fdK fdQ fdS fdT fdC fdX fdM fdSt fdP fdG fdBd fdB fdTo : FuncData} (F : Fun K "law" "law" sLaw f fd) (T : Txt K mg fI cB cC cN cQ) (A' : Cat K mg cB cT cC cN cQ cU)
    (DI : Fun K "__init__" "TextError.__init__" sIni fI fdI) (bI : Binds K fdI ["self", "row", "column"] [])
    (DW : Def K mg "_word_end" sWEnd ["text", "start"] fW fdW) (DN : Def K mg "_is_number" sIsNum ["word"] fN fdN) (DK : Def K mg "_word_kind" sKind ["word", "row", "column"] fK fdK)
    (DQ : Def K mg "_quoted" sQuoted ["text", "start", "row", "column"] fQ fdQ) (DS : Def K mg "is_sign" sSign ["char"] fS fdS) (DT : Def K mg "_token_at" sTokAt ["text", "start", "row", "column"] fT fdT)
    (DC : Def K mg "_comment_end" sCEnd ["text", "start"] fC fdC) (DX : Def K mg "tokens" sTokens ["text"] fX fdX) (DM : Def K mg "_law_mix" sMix ["_law_cell", "_law_k"] fM fdM) (DSt : Def K mg "_law_stream" sStream ["_law_script", "_law_most"] fSt fdSt)
    (DP : Def K mg "_law_pick" sPick ["_law_draws", "_law_many"] fP fdP) (DG : Def K mg "_law_good" sGood ["_law_draws"] fG fdG) (DBd : Def K mg "_law_bad" sBad ["_law_draws"] fBd fdBd) (DB : Def K mg "_law_between" sBetw ["_law_draws"] fB fdB)
    (DTo : Def K mg "_law_told" sTold ["_law_text"] fTo fdTo) : FnOk P w K mg base CX0 7 f fd ["_law_script"] (spLaw K) := by
  refine F.ok scL (fun vs H Q E h => ?_) (fun cdv A outer s H vs Q E hr h => ?_)
  · obtain ⟨a, ns, rfl, _⟩ := h
    rfl
  · obtain ⟨a, ns, rfl, hS, k⟩ := h
    have GSt : FnOk P w K mg base CX0 2 fSt fdSt ["_law_script", "_law_most"] (spStream K) := ok_stream DSt.F T DM
    have GP : FnOk P w K mg base CX0 2 fP fdP ["_law_draws", "_law_many"] spPick := ok_pick DP.F T DM
    have GG : FnOk P w K mg base CX0 3 fG fdG ["_law_draws"] spGood := ok_good DG.F T DM DP
    have GB : FnOk P w K mg base CX0 3 fB fdB ["_law_draws"] spBetw := ok_betw DB.F T DM DP
    have GBd : FnOk P w K mg base CX0 3 fBd fdBd ["_law_draws"] spBad := ok_bad DBd.F T DM DP
    have GTo : FnOk P w K mg base CX0 6 fTo fdTo ["_law_text"] spTold := ok_told DTo.F T A' DI bI DW DN DK DQ DS DT DC DX
    have hr2 : Room 2 _ := hr.mono (by decide)
    have hr3 : Room 3 _ := hr.mono (by decide)
    refine ⟨_, pss_cons (ps_set (i := 1) scL.nd rfl (Or.inl rfl) (pe_call GSt hr2 rfl DSt.g DSt.F.kp DSt.b .nil pass0 (pa_cons (pv 0) (pa_cons pe_int pa_nil))))
      (pss_cons (ps_set (i := 2) scL.nd rfl (Or.inl rfl) pe_str)
      (pss_cons (ps_set (i := 3) scL.nd rfl (Or.inl rfl) (pe_call GP hr2 rfl DP.g DP.F.kp DP.b .nil pass0 (pa_cons (pv 1) (pa_cons pe_int pa_nil))))
      (pss_cons (ps_for PassesOwn.never rfl (pi_range1 (by rfl) T.range (pa_cons (pv 3) pa_nil)) (pg_name (i := 4) scL.nd rfl (Or.inl rfl))
        (pss_one (ps_set (i := 2) scL.nd rfl (Or.inl rfl) (pe_op op_add_str (pe_op op_add_str (pv 2) (pe_call GG hr3 rfl DG.g DG.F.kp DG.b .nil pass0 (pa_cons (pv 1) pa_nil))) (pe_call GB hr3 rfl DB.g DB.F.kp DB.b .nil pass0 (pa_cons (pv 1) pa_nil))))))
      (pss_cons (ps_if (pt_cmpR (op_neD hr.units) (pe_call GTo hr rfl DTo.g DTo.F.kp DTo.b .nil pass0 (pa_cons (pv 2) pa_nil)) (pe_tup (pa_cons pe_str (pa_cons (pe_op op_add (pv 3) pe_int) pa_nil))) (nomark _)) (pss_one (ps_ret pe_bl)) pss_nil)
      (pss_cons (ps_for PassesOwn.never rfl (pi_range1 (by rfl) T.range (pa_cons pe_int pa_nil)) (pg_name (i := 5) scL.nd rfl (Or.inl rfl))
        (pss_cons (ps_asg (pe_call GBd hr3 rfl DBd.g DBd.F.kp DBd.b .nil pass0 (pa_cons (pv 1) pa_nil)) (pg_tup rfl (pgs_cons (pg_name (i := 6) scL.nd rfl (Or.inl rfl)) (pgs_cons (pg_name (i := 7) scL.nd rfl (Or.inl rfl)) pgs_nil))))
        (pss_cons (ps_set (i := 8) scL.nd rfl (Or.inl rfl) (pe_op op_add (pe_bm PySem.F.plainAttrs_str PySem.F.slot_str_count PySem.F.type_str_count mt_count (pv 2) (pa_cons pe_str pa_nil)) pe_int))
        (pss_cons (ps_set (i := 9) scL.nd rfl (Or.inl rfl) (pe_op op_sub (pe_callB call_len_str (by rfl) T.len PySem.boot_len (pa_cons (pv 2) pa_nil)) (pe_bm PySem.F.plainAttrs_str PySem.F.slot_str_rfind PySem.F.type_str_rfind mt_rfind (pv 2) (pa_cons pe_str pa_nil))))
        (pss_cons (ps_set (i := 10) scL.nd rfl (Or.inl rfl) pe_str)
        (pss_join (ps_if (pt_cmpR op_in_seq (pv 7) (pe_tup (pa_cons pe_str (pa_cons pe_str pa_nil))) (by rfl))
          (pss_one (ps_set (i := 10) scL.nd rfl (Or.inl rfl) pe_str))
          (pss_one (ps_for PassesOwn.never rfl (pi_range1 (by rfl) T.range (pa_cons (pe_call GP hr2 rfl DP.g DP.F.kp DP.b .nil pass0 (pa_cons (pv 1) (pa_cons pe_int pa_nil))) pa_nil)) (pg_name (i := 4) scL.nd rfl (Or.inl rfl))
            (pss_one (ps_set (i := 10) scL.nd rfl (Or.inl rfl) (pe_op op_add_str (pe_op op_add_str (pv 10) (pe_ix ix_list (pe_lst (pa_cons pe_str (pa_cons pe_str pa_nil))) (pe_call GP hr2 rfl DP.g DP.F.kp DP.b .nil pass0 (pa_cons (pv 1) (pa_cons pe_int pa_nil))) (fun _ _ => rfl)))
              (pe_ix ix_list (pe_lst (pa_cons (pe_call GG hr3 rfl DG.g DG.F.kp DG.b .nil pass0 (pa_cons (pv 1) pa_nil)) (pa_cons pe_str (pa_cons pe_str (pa_cons pe_str pa_nil))))) (pe_call GP hr2 rfl DP.g DP.F.kp DP.b .nil pass0 (pa_cons (pv 1) (pa_cons pe_int pa_nil))) (fun _ _ => rfl))))))))
        (pss_one (ps_if (pt_cmpR (op_neD hr.units) (pe_call GTo hr rfl DTo.g DTo.F.kp DTo.b .nil pass0 (pa_cons (pe_op op_add_str (pe_op op_add_str (pv 2) (pv 7)) (pv 10)) pa_nil))
            (pe_tup (pa_cons (pv 6) (pa_cons (pv 8) (pa_cons (pv 9) (pa_cons pe_bl (pa_cons pe_bl pa_nil)))))) (nomark _)) (pss_one (ps_ret pe_bl)) pss_nil))))))))
      (pss_one (ps_ret pe_bl))))))), ?_⟩
    refine ⟨_, rfl, a, ns, rfl, hS, fun p H1 s1 D1 => ?_⟩
    dsimp only [gName, tSeq]
    refine ⟨_, rfl, p, 31, rfl, by decide, D1, fun k0 H2 k0a k0b D2 kp2 => ?_⟩
    dsimp only [gName]
    refine ⟨_, rfl, k0, rfl, by omega, by omega, for_range (lo := 0) (n := k0.toNat) (fun i σ H' => (∃ (x : Str) (v4 : Option V), σ = [some (.ref a), some (.ref p), some (.str x), some (.int k0), v4, none, none, none, none, none, none] ∧ Pre (tl x) i ∧ x.length ≤ 32 * i) ∧ DrawsAt H' p)
      ⟨⟨_, _, rfl, by rw [tl_nil]; exact pre_nil, by rw [len_tl, tl_nil]; exact Nat.zero_le _⟩, D2⟩ ?_ ?_⟩
    · -- a good word and what separates it from the next
      rintro i σ H3 hi ⟨⟨x, v4, rfl, hpre, hlen⟩, D3⟩
      refine ⟨_, rfl, _, rfl, p, rfl, D3, fun x1 H4 hx1 D4 _ => ?_⟩
      have l1 : x1.length ≤ 19 := by
        rw [len_tl]
        exact (good_ok _ hx1).2.2.2
      refine ⟨_, _, rfl, rfl, by rw [sizeLine_eq]; omega, _, rfl, p, rfl, D4, fun x2 H5 hx2 D5 _ => ?_⟩
      have l2 : x2.length ≤ 13 := by
        rw [len_tl]
        exact (sep_ok _ hx2).2.2
      refine ⟨_, _, rfl, rfl, by rw [sizeLine_eq, len_app]; omega, ⟨_, _, rfl, ?_, ?_⟩, D5⟩
      · rw [tl_append, tl_append]
        exact pre_more hpre hx1 hx2
      · rw [len_app, len_app]
        omega
    · rintro σ H3 ⟨⟨x, v4, rfl, hpre, hlen⟩, D3⟩
      have sh : Short x := by
        unfold Short
        omega
      have eN : ((k0.toNat + 1 : Nat) : Int) = k0 + 1 := by omega
      -- without a bad thing: as many tokens, and one
      refine ⟨_, rfl, x, .ok (k0.toNat + 1), rfl, sh, pre_end hpre, fun t H4 s4 ht => ?_⟩
      have ht' : H4 t = some (.tup [.str "tokens", .int (k0 + 1)]) := by
        rw [← eN]
        exact ht
      refine ⟨_, rfl, _, _, rfl, rfl, Nat.le_of_ble_eq_true rfl, fun t2 ht2 => ?_⟩
      refine ⟨.tuple [.str "tokens", .int (k0 + 1)], .tuple [.str "tokens", .int (k0 + 1)], .tup (SqT.of ((upd_ne (ne_of_none ht' ht2)).trans ht')) (.cons (.str _) (.cons (.int _) .nil)), .tup (SqT.of upd_same) (.cons (.str _) (.cons (.int _) .nil)), shaped2 strOk_tokens _, shaped2 strOk_tokens _, _, rfl, not_ne (shaped2 strOk_tokens _) ?_⟩
      dsimp only [tNext]
      refine ⟨12, rfl, by decide, by decide, for_range (lo := 0) (n := 12) (fun i σ H' => (∃ v4 v5 v6 v7 v8 v9 v10 : Option V, σ = [some (.ref a), some (.ref p), some (.str x), some (.int k0), v4, v5, v6, v7, v8, v9, v10]) ∧ DrawsAt H' p)
        ⟨⟨_, _, _, _, _, _, _, rfl⟩, (D3.mono s4).mono (same_new (Same.refl _) ht2)⟩ ?_ (fun σ H' _ => k H')⟩
      rintro i σ H6 hi ⟨⟨v4, v5, v6, v7, v8, v9, v10, rfl⟩, D6⟩
      refine ⟨_, rfl, p, rfl, D6, fun b wd t3 H7 hw ht3 D7 _ => ⟨t3, _, rfl, SqT.of ht3, rfl, _, _, rfl, _, _, rfl, rfl, ?_⟩⟩
      obtain ⟨hplain, hwl, htok⟩ := bad_tok hw
      refine ⟨_, rfl, rfl, x, NL, rfl, by rw [nl_is], _, _, rfl, rfl, ?_⟩
      dsimp only [gName]
      refine ⟨_, rfl, x, rfl, sh.line, _, rfl, rfl, x, NL, rfl, by rw [nl_is], _, _, rfl, rfl, ?_⟩
      dsimp only [gName, tAsg, tC]
      refine ⟨fun σ' H' => ∃ (r : Str) (v4 : Option V), σ' = [some (.ref a), some (.ref p), some (.str x), some (.int k0), v4, some (.int (0 + (i : Int))), some (.str (kindOf b)), some (.str wd), some (.int (Txt.count x NL + 1)), some (.int ((x.length : Int) - Txt.rfind x NL)), some (.str r)] ∧
        Stop (tl r) ∧ (tl wd ∈ BOPN → tl r = [10]) ∧ r.length ≤ 100 ∧ DrawsAt H' p, ?_, ?_⟩
      · -- the rest behind the bad thing
        refine ⟨_, rfl, Nat.le_of_ble_eq_true rfl, fun t4 ht4 => ⟨t4, _, rfl, .inr (SqT.of upd_same), rfl, rfl, _, rfl, ?_⟩⟩
        have D8 : DrawsAt (upd H7 t4 (.tup [.str "\"", .str "\"abc"])) p := D7.mono (same_new (Same.refl _) ht4)
        refine (show (if inV (V.str wd) [.str "\"", .str "\"abc"] = true then _ else _) from ?_)
        rw [in_opn]
        by_cases hO : tl wd ∈ BOPN
        · rw [decide_eq_true hO]
          refine iteT ⟨_, _, rfl, ?_, fun _ => tl_nl, by decide +kernel, D8⟩
          rw [tl_nl]
          exact .inr (.inl ⟨_, rfl⟩)
        · rw [decide_eq_false hO]
          refine iteF ⟨_, rfl, p, 4, rfl, by decide, D8, fun k3 H8 k3a k3b D9 _ => ?_⟩
          refine ⟨k3, rfl, by omega, by omega, for_range (lo := 0) (n := k3.toNat) (fun j σ' H' => (∃ (r : Str) (v4 : Option V), σ' = [some (.ref a), some (.ref p), some (.str x), some (.int k0), v4, some (.int (0 + (i : Int))), some (.str (kindOf b)), some (.str wd), some (.int (Txt.count x NL + 1)), some (.int ((x.length : Int) - Txt.rfind x NL)), some (.str r)] ∧
            Stop (tl r) ∧ r.length ≤ 20 * j) ∧ DrawsAt H' p) ⟨⟨_, _, rfl, by rw [tl_nil]; exact .inl rfl, by decide +kernel⟩, D9⟩ ?_ ?_⟩
          · rintro j σ' Ha hj ⟨⟨r, v4', rfl, hst, hrl⟩, Da⟩
            refine ⟨_, rfl, Nat.le_of_ble_eq_true rfl, fun l1 hl1 => ⟨_, rfl, p, 2, rfl, by decide, Da.mono (same_new (Same.refl _) hl1), fun k5 Hb b0 b1 Db kpb => ?_⟩⟩
            obtain ⟨y1, e1, hy1⟩ := seps2_texts.pick b0 b1
            have ly1 : y1.length = 1 := by
              rw [len_tl]
              rcases hy1 with h | h
              · rw [h]
                rfl
              · rw [h]
                rfl
            refine ⟨l1, _, k5, _, rfl, rfl, SqL.of (kpb l1 _ upd_same (Da.ne hl1)), e1, _, _, rfl, rfl, by rw [sizeLine_eq]; omega, ?_⟩
            refine ⟨_, rfl, p, rfl, Db, fun g Hc hg Dc _ => ⟨Nat.le_of_ble_eq_true rfl, fun l2 hl2 => ⟨_, rfl, p, 4, rfl, by decide, Dc.mono (same_new (Same.refl _) hl2), fun k6 Hd d0 d1 Dd kpd => ?_⟩⟩⟩
            obtain ⟨y2, e2, hy2⟩ := (more_texts hg).pick d0 d1
            refine ⟨l2, _, k6, _, rfl, rfl, SqL.of (kpd l2 _ upd_same (Dc.ne hl2)), e2, _, _, rfl, rfl, by rw [sizeLine_eq, len_app]; omega, ⟨_, _, rfl, ?_, ?_⟩, Dd⟩
            · rw [tl_append, tl_append]
              exact stop_more hst hy1
            · rw [len_app, len_app]
              omega
          · rintro σ' Ha ⟨⟨r, v4', rfl, hst, hrl⟩, Da⟩
            exact ⟨r, _, rfl, hst, fun h => absurd h hO, by omega, Da⟩
      · -- what is told of it
        rintro σ' H8 ⟨r, v4', rfl, hst, hopn, hrl, D8⟩
        have hsc := pre_bad hpre hplain (htok (tl r) hst hopn)
        have er : (((adv (1, 1) (tl x)).1 : Nat) : Int) = Txt.count x NL + 1 := by
          rw [adv_row, count_nl]
          show ((1 + (tl x).count 10 : Nat) : Int) = _
          omega
        have ec := rfind_nl x
        refine ⟨_, rfl, _, rfl, _, _, rfl, rfl, by rw [sizeLine_eq]; omega, _, rfl, _, _, rfl, rfl, by rw [sizeLine_eq, len_app]; omega, x ++ wd ++ r, .bad b (adv (1, 1) (tl x)).1 (adv (1, 1) (tl x)).2, rfl, ?_, ?_, fun t5 H9 s9 ht5 => ?_⟩
        · unfold Short
          rw [len_app, len_app]
          omega
        · rw [tl_append, tl_append]
          exact hsc
        · have ht' : H9 t5 = some (.tup [.str (kindOf b), .int (Txt.count x NL + 1), .int ((x.length : Int) - Txt.rfind x NL), .bl false, .bl true]) := by
            rw [← er, ← ec]
            exact ht5
          refine ⟨_, rfl, _, rfl, _, rfl, Nat.le_of_ble_eq_true rfl, fun t6 ht6 => ?_⟩
          have dp : DpAll K (upd H9 t6 (.tup [.str (kindOf b), .int (Txt.count x NL + 1), .int ((x.length : Int) - Txt.rfind x NL), .bl false, .bl true])) [.str (kindOf b), .int (Txt.count x NL + 1), .int ((x.length : Int) - Txt.rfind x NL), .bl false, .bl true]
            [.str (kindOf b), .int (Txt.count x NL + 1), .int ((x.length : Int) - Txt.rfind x NL), .bool false, .bool true] := .cons (.str _) (.cons (.int _) (.cons (.int _) (.cons (.bl _) (.cons (.bl _) .nil))))
          refine ⟨.tuple [.str (kindOf b), .int (Txt.count x NL + 1), .int ((x.length : Int) - Txt.rfind x NL), .bool false, .bool true], .tuple [.str (kindOf b), .int (Txt.count x NL + 1), .int ((x.length : Int) - Txt.rfind x NL), .bool false, .bool true],
            .tup (SqT.of ((upd_ne (ne_of_none ht' ht6)).trans ht')) dp, .tup (SqT.of upd_same) dp, shaped5 (strOk_kind b) _ _, shaped5 (strOk_kind b) _ _, _, rfl, not_ne (shaped5 (strOk_kind b) _ _) ?_⟩
          exact ⟨⟨_, _, _, _, _, _, _, rfl⟩, (D8.mono s9).mono (same_new (Same.refl _) ht6)⟩
end
end K01
/-! k01, part 14: what the top has written, and the end. -/
namespace K01
open PySem PySem.Spec PyProof.Rows L2
open TL (tl len_tl ext_tl tl_append)
theorem def_mk {K : PySem.W.Frag} {h : Heap} {mg : Str → Option Value} {nm : Str} {st : Stmt} {ps : List Str} {f : Addr} {oc : Value} {od an : Option Addr} {sl : Array (Option Value)} {kV dc pm cd ct : Value} (X : K.In h) (G : h.Ns mainGlobals mg)
    (a : PySem.W.nsIn K mainGlobals nm = some (some (.ref f))) (l : K.lookup f = some ⟨oc, od, .func (PySem.W.fnOf nm nm (defArgs st) (defBody st) (defScope st) .none kV dc pm an cd ct), sl⟩) (c : PySem.W.codeIn K cd nm = true) (k : PySem.W.keepIn K (.ref f) = true)
    (hb : ∀ (kV doc pm : Value) (an : Option Addr) (cdv ct : Value) (us : List Value), us.length = ps.length → bindArgs (PySem.W.fnOf nm nm (defArgs st) (defBody st) (defScope st) .none kV doc pm an cdv ct) ⟨us, []⟩ = pure (ps.zip us)) :
    Def K mg nm st ps f (PySem.W.fnOf nm nm (defArgs st) (defBody st) (defScope st) .none kV dc pm an cd ct) := ⟨fun_mk l c k, PySem.W.mg_of X G a, (fun_mk l c k).binds hb⟩
theorem kit_yes {K : PySem.W.Frag} {a b : Addr} (ht : PySem.W.typeIn K (.ref b) = some (.type "type")) (hd : PySem.W.hasDictIn K b = true) (hs : PySem.W.subIn K (.ref a) (.ref b) = some true) : PySem.W.kitOne K (.ref a) (.ref b) = some true := by
  have hcl : (PySem.W.clsIn K b).isSome = true := by
    obtain ⟨cd, hc, _⟩ := PySem.W.any_some hd
    rw [hc]
    rfl
  unfold PySem.W.kitOne PySem.W.kitCls
  by_cases e : (Value.ref a == Value.ref b) = true
  · rw [if_pos e]
  · rw [if_neg e]
    show (if ((PySem.W.clsIn K b).isSome && PySem.W.typeIn K (.ref b) == some (.type "type")) = true then _ else _) = _
    rw [hcl, ht]
    exact hs
theorem kit_no {K : PySem.W.Frag} {a b : Addr} (ht : PySem.W.typeIn K (.ref b) = some (.type "type")) (hd : PySem.W.hasDictIn K b = true) (hs : PySem.W.subIn K (.ref a) (.ref b) = some false) (e : (Value.ref a == Value.ref b) = false) : PySem.W.kitOne K (.ref a) (.ref b) = some false := by
  have hcl : (PySem.W.clsIn K b).isSome = true := by
    obtain ⟨cd, hc, _⟩ := PySem.W.any_some hd
    rw [hc]
    rfl
  unfold PySem.W.kitOne PySem.W.kitCls
  rw [e, if_neg Bool.false_ne_true]
  show (if ((PySem.W.clsIn K b).isSome && PySem.W.typeIn K (.ref b) == some (.type "type")) = true then _ else _) = _
  rw [hcl, ht]
  exact hs
theorem any_nil {K : PySem.W.Frag} {a : Value} : PySem.W.kitAny K a [] = some false := rfl
theorem any_no {K : PySem.W.Frag} {a c : Value} {r : List Value} (h : PySem.W.kitOne K a c = some false) (hr : PySem.W.kitAny K a r = some false) : PySem.W.kitAny K a (c :: r) = some false := by
  show (match PySem.W.kitOne K a c with | some true => some true | some false => PySem.W.kitAny K a r | none => none) = _
  rw [h]
  exact hr
/-- the items of a written tuple are these values -/
def AreV : List V → List Value → Prop
  | [], [] => True
  | v :: vs, u :: us => RelV v u ∧ AreV vs us
  | _, _ => False
theorem vals_by : ∀ {vs : List V} {us : List Value}, AreV vs us → Vals vs us
  | [], [], _ => .nil
  | _ :: _, _ :: _, h => .cons h.1 (vals_by h.2)
  | [], _ :: _, h => h.elim
  | _ :: _, [], h => h.elim

theorem all_mk {l : PySem.W.OpenLaw} {w : World} {K : PySem.W.Frag} {h : Heap} {mg : Str → Option Value} (X : K.In h) (G : h.Ns mainGlobals mg)
    {fI cB cT cC cN cQ cU tupK tupG fa fS fW fN fK fQ fT fC fX fM fSt fP fG fBd fB fTo fL : Addr}
    {odI anI odS anS odW anW odN anN odK anK odQ anQ odT anT odC anC odX anX odM anM odSt anSt odP anP odG anG odBd anBd odB anB odTo anTo odL anL : Option Addr} {slI slS slW slN slK slQ slT slC slX slM slSt slP slG slBd slB slTo slL : Array (Option Value)} {ocI kVI dcI pmI cdI ctI ocS kVS dcS pmS cdS ctS ocW kVW dcW pmW cdW ctW ocN kVN dcN pmN cdN ctN ocK kVK dcK pmK cdK ctK ocQ kVQ dcQ pmQ cdQ ctQ ocT kVT dcT pmT cdT ctT ocC kVC dcC pmC cdC ctC ocX kVX dcX pmX cdX ctX ocM kVM dcM pmM cdM ctM ocSt kVSt dcSt pmSt cdSt ctSt ocP kVP dcP pmP cdP ctP ocG kVG dcG pmG cdG ctG ocBd kVBd dcBd pmBd cdBd ctBd ocB kVB dcB pmB cdB ctB ocTo kVTo dcTo pmTo cdTo ctTo ocL kVL dcL pmL cdL ctL : Value}
    {nmC qC : Str} {nsC : Addr} {bsC : List Value} {snC : List Str} {subC : List Value} {abC : Bool} {colC : Option Bool} {ddC : Option Addr} {m0C m1C m2C m3C m5C : Option Value}
    {nmN qN : Str} {nsN : Addr} {bsN : List Value} {snN : List Str} {subN : List Value} {abN : Bool} {colN : Option Bool} {ddN : Option Addr} {m0N m1N m2N m3N m5N : Option Value}
    {nmQ qQ : Str} {nsQ : Addr} {bsQ : List Value} {snQ : List Str} {subQ : List Value} {abQ : Bool} {colQ : Option Bool} {ddQ : Option Addr} {m0Q m1Q m2Q m3Q m5Q : Option Value}
    {tLET tDIG tSHT tMOST tLGST tPER tBACK : Tok} {odK2 odG2 : Option Addr} {slK2 slG2 : Array (Option (Value))} {itsK itsG : Array Value} {nK2 nG2 : Nat}
    (hfa : mg "law" = some (.ref fa))
    (cnB : PySem.W.nsIn K mainGlobals "TapError" = some (some (.ref cB)))
    (cnT : PySem.W.nsIn K mainGlobals "TextError" = some (some (.ref cT)))
    (cnU : PySem.W.nsIn K mainGlobals "Unexpected" = some (some (.ref cU)))
    (aCe : PySem.W.nsIn K mainGlobals "BadCharacter" = some (some (.ref cC)))
    (aNe : PySem.W.nsIn K mainGlobals "BadNumber" = some (some (.ref cN)))
    (aQe : PySem.W.nsIn K mainGlobals "BadQuote" = some (some (.ref cQ)))
    (rdB : PySem.W.readsIn K cB (.type "type") = true)
    (gaB : PySem.W.specialIn K (.ref cB) "__getattribute__" = some (some (.builtin "type.__getattribute__")))
    (inB : PySem.W.findCls K (.ref cB) (.type "type") "__init__" = some (.val (.builtin "ValueError.__init__")))
    (ini0 : PySem.W.findIn K (.ref cT) "__init__" = some (some (.ref fI)))
    (tI : PySem.W.typeIn K (.ref fI) = some (.type "function"))
    (lI : K.lookup fI = some ⟨ocI, odI, .func (PySem.W.fnOf "__init__" "TextError.__init__" (defArgs sIni) (defBody sIni) (defScope sIni) .none kVI dcI pmI anI cdI ctI), slI⟩)
    (cdI' : PySem.W.codeIn K cdI "TextError.__init__" = true)
    (kpI : PySem.W.keepIn K (.ref fI) = true)
    (gcl : PySem.W.specialIn K (.builtin "object.__class__") "__get__" = some (some (.builtin "getset_descriptor.__get__")))
    (tcl : PySem.W.takesIn K (.builtin "object.__class__") = some true)
    (xC : K.lookup cC = some (excClassObj nmC qC cC nsC bsC [.ref cT, .ref cB, .type "ValueError", .type "Exception", .type "BaseException", .type "object"] true snC subC abC colC ddC m0C m1C m2C m3C m5C "ValueError.__new__"))
    (saC : PySem.W.findIn K (.ref cC) "__setattr__" = some (some (.builtin "object.__setattr__")))
    (gaC : PySem.W.findIn K (.ref cC) "__getattribute__" = some (some (.builtin "BaseException.__getattribute__")))
    (ggC : PySem.W.findIn K (.ref cC) "__getattr__" = some none)
    (clC : PySem.W.findIn K (.ref cC) "__class__" = some (some (.builtin "object.__class__")))
    (inC : PySem.W.findIn K (.ref cC) "__init__" = some (some (.ref fI)))
    (nrC : PySem.W.findIn K (.ref cC) "row" = some none)
    (ncC : PySem.W.findIn K (.ref cC) "column" = some none)
    (exC : PySem.W.subIn K (.ref cC) (.type "BaseException") = some true)
    (tyC : PySem.W.typeIn K (.ref cC) = some (.type "type"))
    (kpC : PySem.W.keepIn K (.ref cC) = true)
    (hdC : PySem.W.hasDictIn K cC = true)
    (moC : PySem.W.mroIn K cC (.type "object") = some true)
    (xN : K.lookup cN = some (excClassObj nmN qN cN nsN bsN [.ref cT, .ref cB, .type "ValueError", .type "Exception", .type "BaseException", .type "object"] true snN subN abN colN ddN m0N m1N m2N m3N m5N "ValueError.__new__"))
    (saN : PySem.W.findIn K (.ref cN) "__setattr__" = some (some (.builtin "object.__setattr__")))
    (gaN : PySem.W.findIn K (.ref cN) "__getattribute__" = some (some (.builtin "BaseException.__getattribute__")))
    (ggN : PySem.W.findIn K (.ref cN) "__getattr__" = some none)
    (clN : PySem.W.findIn K (.ref cN) "__class__" = some (some (.builtin "object.__class__")))
    (inN : PySem.W.findIn K (.ref cN) "__init__" = some (some (.ref fI)))
    (nrN : PySem.W.findIn K (.ref cN) "row" = some none)
    (ncN : PySem.W.findIn K (.ref cN) "column" = some none)
    (exN : PySem.W.subIn K (.ref cN) (.type "BaseException") = some true)
    (tyN : PySem.W.typeIn K (.ref cN) = some (.type "type"))
    (kpN : PySem.W.keepIn K (.ref cN) = true)
    (hdN : PySem.W.hasDictIn K cN = true)
    (moN : PySem.W.mroIn K cN (.type "object") = some true)
    (xQ : K.lookup cQ = some (excClassObj nmQ qQ cQ nsQ bsQ [.ref cT, .ref cB, .type "ValueError", .type "Exception", .type "BaseException", .type "object"] true snQ subQ abQ colQ ddQ m0Q m1Q m2Q m3Q m5Q "ValueError.__new__"))
    (saQ : PySem.W.findIn K (.ref cQ) "__setattr__" = some (some (.builtin "object.__setattr__")))
    (gaQ : PySem.W.findIn K (.ref cQ) "__getattribute__" = some (some (.builtin "BaseException.__getattribute__")))
    (ggQ : PySem.W.findIn K (.ref cQ) "__getattr__" = some none)
    (clQ : PySem.W.findIn K (.ref cQ) "__class__" = some (some (.builtin "object.__class__")))
    (inQ : PySem.W.findIn K (.ref cQ) "__init__" = some (some (.ref fI)))
    (nrQ : PySem.W.findIn K (.ref cQ) "row" = some none)
    (ncQ : PySem.W.findIn K (.ref cQ) "column" = some none)
    (exQ : PySem.W.subIn K (.ref cQ) (.type "BaseException") = some true)
    (tyQ : PySem.W.typeIn K (.ref cQ) = some (.type "type"))
    (kpQ : PySem.W.keepIn K (.ref cQ) = true)
    (hdQ : PySem.W.hasDictIn K cQ = true)
    (moQ : PySem.W.mroIn K cQ (.type "object") = some true)
    (tyB : PySem.W.typeIn K (.ref cB) = some (.type "type"))
    (hdB : PySem.W.hasDictIn K cB = true)
    (tyT : PySem.W.typeIn K (.ref cT) = some (.type "type"))
    (hdT : PySem.W.hasDictIn K cT = true)
    (tyU : PySem.W.typeIn K (.ref cU) = some (.type "type"))
    (hdU : PySem.W.hasDictIn K cU = true)
    (sCC : PySem.W.subIn K (.ref cC) (.ref cC) = some true)
    (sNC : PySem.W.subIn K (.ref cN) (.ref cC) = some false)
    (sNN : PySem.W.subIn K (.ref cN) (.ref cN) = some true)
    (sQC : PySem.W.subIn K (.ref cQ) (.ref cC) = some false)
    (sQN : PySem.W.subIn K (.ref cQ) (.ref cN) = some false)
    (sQQ : PySem.W.subIn K (.ref cQ) (.ref cQ) = some true)
    (sCN : PySem.W.subIn K (.ref cC) (.ref cN) = some false)
    (sCQ : PySem.W.subIn K (.ref cC) (.ref cQ) = some false)
    (sCU : PySem.W.subIn K (.ref cC) (.ref cU) = some false)
    (sNQ : PySem.W.subIn K (.ref cN) (.ref cQ) = some false)
    (sNU : PySem.W.subIn K (.ref cN) (.ref cU) = some false)
    (sQU : PySem.W.subIn K (.ref cQ) (.ref cU) = some false)
    (sCT : PySem.W.subIn K (.ref cC) (.ref cT) = some true)
    (sNT : PySem.W.subIn K (.ref cN) (.ref cT) = some true)
    (sQT : PySem.W.subIn K (.ref cQ) (.ref cT) = some true)
    (sQB : PySem.W.subIn K (.ref cQ) (.ref cB) = some true)
    (nCN : (Value.ref cC == Value.ref cN) = false)
    (nCQ : (Value.ref cC == Value.ref cQ) = false)
    (nCU : (Value.ref cC == Value.ref cU) = false)
    (nNQ : (Value.ref cN == Value.ref cQ) = false)
    (nNU : (Value.ref cN == Value.ref cU) = false)
    (nQU : (Value.ref cQ == Value.ref cU) = false)
    (gLET : PySem.W.nsIn K mainGlobals "LETTERS" = some (some (.str sLET tLET)))
    (gDIG : PySem.W.nsIn K mainGlobals "DIGITS" = some (some (.str sDIG tDIG)))
    (gSHT : PySem.W.nsIn K mainGlobals "SHORT_SIGNS" = some (some (.str sSHT tSHT)))
    (gMOST : PySem.W.nsIn K mainGlobals "MOST" = some (some (.int 9223372036854775807 tMOST)))
    (gLGST : PySem.W.nsIn K mainGlobals "LONGEST" = some (some (.int 32 tLGST)))
    (gPER : PySem.W.nsIn K mainGlobals "PERCENT" = some (some (.int 37 tPER)))
    (gBACK : PySem.W.nsIn K mainGlobals "BACKSLASH" = some (some (.int 92 tBACK)))
    (gKEY : PySem.W.nsIn K mainGlobals "KEYWORDS" = some (some (.ref tupK)))
    (lKEY : K.lookup tupK = some ⟨.type "tuple", odK2, .seq itsK nK2, slK2⟩)
    (vKEY : Vals KEYV itsK.toList)
    (zKEY : itsK.size ≤ sizeLine)
    (gLONG : PySem.W.nsIn K mainGlobals "LONG_SIGNS" = some (some (.ref tupG)))
    (lLONG : K.lookup tupG = some ⟨.type "tuple", odG2, .seq itsG nG2, slG2⟩)
    (vLONG : Vals LONGV itsG.toList)
    (zLONG : itsG.size ≤ sizeLine)
    (z_len : PySem.W.nsIn K mainGlobals "len" = some none)
    (z_ord : PySem.W.nsIn K mainGlobals "ord" = some none)
    (z_int : PySem.W.nsIn K mainGlobals "int" = some none)
    (z_str : PySem.W.nsIn K mainGlobals "str" = some none)
    (z_min : PySem.W.nsIn K mainGlobals "min" = some none)
    (z_range : PySem.W.nsIn K mainGlobals "range" = some none)
    (z_isinstance : PySem.W.nsIn K mainGlobals "isinstance" = some none)
    (aS : PySem.W.nsIn K mainGlobals "is_sign" = some (some (.ref fS)))
    (lS : K.lookup fS = some ⟨ocS, odS, .func (PySem.W.fnOf "is_sign" "is_sign" (defArgs sSign) (defBody sSign) (defScope sSign) .none kVS dcS pmS anS cdS ctS), slS⟩)
    (cdS' : PySem.W.codeIn K cdS "is_sign" = true)
    (kpS' : PySem.W.keepIn K (.ref fS) = true)
    (aW : PySem.W.nsIn K mainGlobals "_word_end" = some (some (.ref fW)))
    (lW : K.lookup fW = some ⟨ocW, odW, .func (PySem.W.fnOf "_word_end" "_word_end" (defArgs sWEnd) (defBody sWEnd) (defScope sWEnd) .none kVW dcW pmW anW cdW ctW), slW⟩)
    (cdW' : PySem.W.codeIn K cdW "_word_end" = true)
    (kpW' : PySem.W.keepIn K (.ref fW) = true)
    (aN : PySem.W.nsIn K mainGlobals "_is_number" = some (some (.ref fN)))
    (lN : K.lookup fN = some ⟨ocN, odN, .func (PySem.W.fnOf "_is_number" "_is_number" (defArgs sIsNum) (defBody sIsNum) (defScope sIsNum) .none kVN dcN pmN anN cdN ctN), slN⟩)
    (cdN' : PySem.W.codeIn K cdN "_is_number" = true)
    (kpN' : PySem.W.keepIn K (.ref fN) = true)
    (aK : PySem.W.nsIn K mainGlobals "_word_kind" = some (some (.ref fK)))
    (lK : K.lookup fK = some ⟨ocK, odK, .func (PySem.W.fnOf "_word_kind" "_word_kind" (defArgs sKind) (defBody sKind) (defScope sKind) .none kVK dcK pmK anK cdK ctK), slK⟩)
    (cdK' : PySem.W.codeIn K cdK "_word_kind" = true)
    (kpK' : PySem.W.keepIn K (.ref fK) = true)
    (aQ : PySem.W.nsIn K mainGlobals "_quoted" = some (some (.ref fQ)))
    (lQ : K.lookup fQ = some ⟨ocQ, odQ, .func (PySem.W.fnOf "_quoted" "_quoted" (defArgs sQuoted) (defBody sQuoted) (defScope sQuoted) .none kVQ dcQ pmQ anQ cdQ ctQ), slQ⟩)
    (cdQ' : PySem.W.codeIn K cdQ "_quoted" = true)
    (kpQ' : PySem.W.keepIn K (.ref fQ) = true)
    (aT : PySem.W.nsIn K mainGlobals "_token_at" = some (some (.ref fT)))
    (lT : K.lookup fT = some ⟨ocT, odT, .func (PySem.W.fnOf "_token_at" "_token_at" (defArgs sTokAt) (defBody sTokAt) (defScope sTokAt) .none kVT dcT pmT anT cdT ctT), slT⟩)
    (cdT' : PySem.W.codeIn K cdT "_token_at" = true)
    (kpT' : PySem.W.keepIn K (.ref fT) = true)
    (aC : PySem.W.nsIn K mainGlobals "_comment_end" = some (some (.ref fC)))
    (lC : K.lookup fC = some ⟨ocC, odC, .func (PySem.W.fnOf "_comment_end" "_comment_end" (defArgs sCEnd) (defBody sCEnd) (defScope sCEnd) .none kVC dcC pmC anC cdC ctC), slC⟩)
    (cdC' : PySem.W.codeIn K cdC "_comment_end" = true)
    (kpC' : PySem.W.keepIn K (.ref fC) = true)
    (aX : PySem.W.nsIn K mainGlobals "tokens" = some (some (.ref fX)))
    (lX : K.lookup fX = some ⟨ocX, odX, .func (PySem.W.fnOf "tokens" "tokens" (defArgs sTokens) (defBody sTokens) (defScope sTokens) .none kVX dcX pmX anX cdX ctX), slX⟩)
    (cdX' : PySem.W.codeIn K cdX "tokens" = true)
    (kpX' : PySem.W.keepIn K (.ref fX) = true)
    (aM : PySem.W.nsIn K mainGlobals "_law_mix" = some (some (.ref fM)))
    (lM : K.lookup fM = some ⟨ocM, odM, .func (PySem.W.fnOf "_law_mix" "_law_mix" (defArgs sMix) (defBody sMix) (defScope sMix) .none kVM dcM pmM anM cdM ctM), slM⟩)
    (cdM' : PySem.W.codeIn K cdM "_law_mix" = true)
    (kpM' : PySem.W.keepIn K (.ref fM) = true)
    (aSt : PySem.W.nsIn K mainGlobals "_law_stream" = some (some (.ref fSt)))
    (lSt : K.lookup fSt = some ⟨ocSt, odSt, .func (PySem.W.fnOf "_law_stream" "_law_stream" (defArgs sStream) (defBody sStream) (defScope sStream) .none kVSt dcSt pmSt anSt cdSt ctSt), slSt⟩)
    (cdSt' : PySem.W.codeIn K cdSt "_law_stream" = true)
    (kpSt' : PySem.W.keepIn K (.ref fSt) = true)
    (aP : PySem.W.nsIn K mainGlobals "_law_pick" = some (some (.ref fP)))
    (lP : K.lookup fP = some ⟨ocP, odP, .func (PySem.W.fnOf "_law_pick" "_law_pick" (defArgs sPick) (defBody sPick) (defScope sPick) .none kVP dcP pmP anP cdP ctP), slP⟩)
    (cdP' : PySem.W.codeIn K cdP "_law_pick" = true)
    (kpP' : PySem.W.keepIn K (.ref fP) = true)
    (aG : PySem.W.nsIn K mainGlobals "_law_good" = some (some (.ref fG)))
    (lG : K.lookup fG = some ⟨ocG, odG, .func (PySem.W.fnOf "_law_good" "_law_good" (defArgs sGood) (defBody sGood) (defScope sGood) .none kVG dcG pmG anG cdG ctG), slG⟩)
    (cdG' : PySem.W.codeIn K cdG "_law_good" = true)
    (kpG' : PySem.W.keepIn K (.ref fG) = true)
    (aBd : PySem.W.nsIn K mainGlobals "_law_bad" = some (some (.ref fBd)))
    (lBd : K.lookup fBd = some ⟨ocBd, odBd, .func (PySem.W.fnOf "_law_bad" "_law_bad" (defArgs sBad) (defBody sBad) (defScope sBad) .none kVBd dcBd pmBd anBd cdBd ctBd), slBd⟩)
    (cdBd' : PySem.W.codeIn K cdBd "_law_bad" = true)
    (kpBd' : PySem.W.keepIn K (.ref fBd) = true)
    (aB : PySem.W.nsIn K mainGlobals "_law_between" = some (some (.ref fB)))
    (lB : K.lookup fB = some ⟨ocB, odB, .func (PySem.W.fnOf "_law_between" "_law_between" (defArgs sBetw) (defBody sBetw) (defScope sBetw) .none kVB dcB pmB anB cdB ctB), slB⟩)
    (cdB' : PySem.W.codeIn K cdB "_law_between" = true)
    (kpB' : PySem.W.keepIn K (.ref fB) = true)
    (aTo : PySem.W.nsIn K mainGlobals "_law_told" = some (some (.ref fTo)))
    (lTo : K.lookup fTo = some ⟨ocTo, odTo, .func (PySem.W.fnOf "_law_told" "_law_told" (defArgs sTold) (defBody sTold) (defScope sTold) .none kVTo dcTo pmTo anTo cdTo ctTo), slTo⟩)
    (cdTo' : PySem.W.codeIn K cdTo "_law_told" = true)
    (kpTo' : PySem.W.keepIn K (.ref fTo) = true)
    (aL : PySem.W.nsIn K mainGlobals "law" = some (some (.ref fL)))
    (lL : K.lookup fL = some ⟨ocL, odL, .func (PySem.W.fnOf "law" "law" (defArgs sLaw) (defBody sLaw) (defScope sLaw) .none kVL dcL pmL anL cdL ctL), slL⟩)
    (cdL' : PySem.W.codeIn K cdL "law" = true)
    (kpL' : PySem.W.keepIn K (.ref fL) = true)
    : ∃ fd : FuncData, (∀ (s : Shared) (v : Value), BindsTo s fd ⟨[v], []⟩ [("_law_script", v)]) ∧ ∀ base : Heap, K.In base → base.Ns mainGlobals mg → FnOk l.prog w K mg base CX0 7 fa fd ["_law_script"] (spLaw K) := by
  have e := hfa.symm.trans (PySem.W.mg_of X G aL)
  cases e
  have FI := fun_mk (st := sIni) lI cdI' kpI
  have bI := FI.binds (ps := ["self", "row", "column"]) fun _ _ _ _ _ _ us hl => match us, hl with | [_, _, _], _ => rfl
  have eC : Err K mg "BadCharacter" cC fI := ⟨PySem.W.mg_of X G aCe, ⟨⟨_, _, _, _, _, _, _, _, _, _, _, _, _, _, _, xC, rfl⟩, saC, exC, tyC, kpC⟩, ⟨gaC, ggC, exC, hdC⟩, ⟨gaC, ggC, exC, hdC, clC, gcl, tcl, moC⟩, inC, nrC, ncC⟩
  have eN : Err K mg "BadNumber" cN fI := ⟨PySem.W.mg_of X G aNe, ⟨⟨_, _, _, _, _, _, _, _, _, _, _, _, _, _, _, xN, rfl⟩, saN, exN, tyN, kpN⟩, ⟨gaN, ggN, exN, hdN⟩, ⟨gaN, ggN, exN, hdN, clN, gcl, tcl, moN⟩, inN, nrN, ncN⟩
  have eQ : Err K mg "BadQuote" cQ fI := ⟨PySem.W.mg_of X G aQe, ⟨⟨_, _, _, _, _, _, _, _, _, _, _, _, _, _, _, xQ, rfl⟩, saQ, exQ, tyQ, kpQ⟩, ⟨gaQ, ggQ, exQ, hdQ⟩, ⟨gaQ, ggQ, exQ, hdQ, clQ, gcl, tcl, moQ⟩, inQ, nrQ, ncQ⟩
  have T : Txt K mg fI cB cC cN cQ := {
    base := ⟨PySem.W.mg_of X G cnB, ⟨rdB, gaB⟩, inB⟩, tI := tI, eC := eC, eN := eN, eQ := eQ,
    len := PySem.W.mg_none_of X G z_len, ord := PySem.W.mg_none_of X G z_ord, int := PySem.W.mg_none_of X G z_int, str := PySem.W.mg_none_of X G z_str, min := PySem.W.mg_none_of X G z_min, range := PySem.W.mg_none_of X G z_range, isinst := PySem.W.mg_none_of X G z_isinstance,
    gLET := ⟨_, PySem.W.mg_of X G gLET⟩, gDIG := ⟨_, PySem.W.mg_of X G gDIG⟩, gSHT := ⟨_, PySem.W.mg_of X G gSHT⟩, gMOST := ⟨_, PySem.W.mg_of X G gMOST⟩, gLGST := ⟨_, PySem.W.mg_of X G gLGST⟩, gPER := ⟨_, PySem.W.mg_of X G gPER⟩, gBACK := ⟨_, PySem.W.mg_of X G gBACK⟩,
    gKEY := ⟨_, PySem.W.mg_of X G gKEY, ⟨_, _, _, lKEY, rfl, rfl, zKEY, vKEY⟩⟩, gLONG := ⟨_, PySem.W.mg_of X G gLONG, ⟨_, _, _, lLONG, rfl, rfl, zLONG, vLONG⟩⟩ }
  have A' : Cat K mg cB cT cC cN cQ cU := {
    gT := PySem.W.mg_of X G cnT, gU := PySem.W.mg_of X G cnU, mCC := PySem.W.exm_ref exC hdC tyC sCC, mNC := PySem.W.exm_ref exC hdC tyC sNC, mNN := PySem.W.exm_ref exN hdN tyN sNN, mQC := PySem.W.exm_ref exC hdC tyC sQC, mQN := PySem.W.exm_ref exN hdN tyN sQN, mQQ := PySem.W.exm_ref exQ hdQ tyQ sQQ,
    kC := any_no (kit_no tyN hdN sCN nCN) (any_no (kit_no tyQ hdQ sCQ nCQ) (any_no (kit_no tyU hdU sCU nCU) any_nil)), kN := any_no (kit_no tyQ hdQ sNQ nNQ) (any_no (kit_no tyU hdU sNU nNU) any_nil), kQ := (kit_no tyU hdU sQU nQU), tC := kit_yes tyT hdT sCT, tN := kit_yes tyT hdT sNT, tQ := kit_yes tyT hdT sQT, bQ := kit_yes tyB hdB sQB }
  have DS := def_mk (nm := "is_sign") (st := sSign) (ps := ["char"]) X G aS lS cdS' kpS' fun _ _ _ _ _ _ us hl => match us, hl with | [_], _ => rfl
  have DW := def_mk (nm := "_word_end") (st := sWEnd) (ps := ["text", "start"]) X G aW lW cdW' kpW' fun _ _ _ _ _ _ us hl => match us, hl with | [_, _], _ => rfl
  have DN := def_mk (nm := "_is_number") (st := sIsNum) (ps := ["word"]) X G aN lN cdN' kpN' fun _ _ _ _ _ _ us hl => match us, hl with | [_], _ => rfl
  have DK := def_mk (nm := "_word_kind") (st := sKind) (ps := ["word", "row", "column"]) X G aK lK cdK' kpK' fun _ _ _ _ _ _ us hl => match us, hl with | [_, _, _], _ => rfl
  have DQ := def_mk (nm := "_quoted") (st := sQuoted) (ps := ["text", "start", "row", "column"]) X G aQ lQ cdQ' kpQ' fun _ _ _ _ _ _ us hl => match us, hl with | [_, _, _, _], _ => rfl
  have DT := def_mk (nm := "_token_at") (st := sTokAt) (ps := ["text", "start", "row", "column"]) X G aT lT cdT' kpT' fun _ _ _ _ _ _ us hl => match us, hl with | [_, _, _, _], _ => rfl
  have DC := def_mk (nm := "_comment_end") (st := sCEnd) (ps := ["text", "start"]) X G aC lC cdC' kpC' fun _ _ _ _ _ _ us hl => match us, hl with | [_, _], _ => rfl
  have DX := def_mk (nm := "tokens") (st := sTokens) (ps := ["text"]) X G aX lX cdX' kpX' fun _ _ _ _ _ _ us hl => match us, hl with | [_], _ => rfl
  have DM := def_mk (nm := "_law_mix") (st := sMix) (ps := ["_law_cell", "_law_k"]) X G aM lM cdM' kpM' fun _ _ _ _ _ _ us hl => match us, hl with | [_, _], _ => rfl
  have DSt := def_mk (nm := "_law_stream") (st := sStream) (ps := ["_law_script", "_law_most"]) X G aSt lSt cdSt' kpSt' fun _ _ _ _ _ _ us hl => match us, hl with | [_, _], _ => rfl
  have DP := def_mk (nm := "_law_pick") (st := sPick) (ps := ["_law_draws", "_law_many"]) X G aP lP cdP' kpP' fun _ _ _ _ _ _ us hl => match us, hl with | [_, _], _ => rfl
  have DG := def_mk (nm := "_law_good") (st := sGood) (ps := ["_law_draws"]) X G aG lG cdG' kpG' fun _ _ _ _ _ _ us hl => match us, hl with | [_], _ => rfl
  have DBd := def_mk (nm := "_law_bad") (st := sBad) (ps := ["_law_draws"]) X G aBd lBd cdBd' kpBd' fun _ _ _ _ _ _ us hl => match us, hl with | [_], _ => rfl
  have DB := def_mk (nm := "_law_between") (st := sBetw) (ps := ["_law_draws"]) X G aB lB cdB' kpB' fun _ _ _ _ _ _ us hl => match us, hl with | [_], _ => rfl
  have DTo := def_mk (nm := "_law_told") (st := sTold) (ps := ["_law_text"]) X G aTo lTo cdTo' kpTo' fun _ _ _ _ _ _ us hl => match us, hl with | [_], _ => rfl
  have FL := fun_mk (st := sLaw) lL cdL' kpL'
  exact ⟨PySem.W.fnOf "law" "law" (defArgs sLaw) (defBody sLaw) (defScope sLaw) .none kVL dcL pmL anL cdL ctL, fun s v => .of_eq rfl, fun base _ _ => ok_law FL T A' FI bI DW DN DK DQ DS DT DC DX DM DSt DP DG DBd DB DTo⟩
end K01
open PySem PySem.W PyProof.Rows
set_option maxRecDepth 100000 in
set_option maxHeartbeats 0 in
theorem PySem.Challenge.cw_tapline_k01_scripts_with_a_bad_place_holds : PySem.Challenge.rw_tapline_k01_scripts_with_a_bad_place.Holds := by
  w_on; o_law; k_head; (case hw => w_witness2)
  k_fill
  refine L2.walk_ofK (n := 63) (k := 7) (x := "_law_script") (CX := L2.CX0) (sp := K01.spLaw) rfl (by decide) rfl ⟨rfl, by decide, by decide⟩ (fun w h Y => PySem.W.kIn_of Y) ?F (fun _ _ a ns _ _ hS => ⟨a, ns, rfl, hS, fun _ => rfl⟩) (fun _ _ _ _ z => z)
  case F =>
    intro w mg fa h KX G hmg
    refine' K01.all_mk (l := PySem.Challenge.rw_tapline_k01_scripts_with_a_bad_place) KX G hmg ?cnB ?cnT ?cnU ?aCe ?aNe ?aQe ?rdB ?gaB ?inB ?ini0 ?tI ?lI ?cdI2 ?kpI ?gcl ?tcl ?xC ?saC ?gaC ?ggC ?clC ?inC ?nrC ?ncC ?exC ?tyC ?kpC ?hdC ?moC ?xN ?saN ?gaN ?ggN ?clN ?inN ?nrN ?ncN ?exN ?tyN ?kpN ?hdN ?moN ?xQ ?saQ ?gaQ ?ggQ ?clQ ?inQ ?nrQ ?ncQ ?exQ ?tyQ ?kpQ ?hdQ ?moQ ?tyB ?hdB ?tyT ?hdT ?tyU ?hdU ?sCC ?sNC ?sNN ?sQC ?sQN ?sQQ ?sCN ?sCQ ?sCU ?sNQ ?sNU ?sQU ?sCT ?sNT ?sQT ?sQB ?nCN ?nCQ ?nCU ?nNQ ?nNU ?nQU ?gLET ?gDIG ?gSHT ?gMOST ?gLGST ?gPER ?gBACK ?gKEY ?lKEY ?vKEY ?zKEY ?gLONG ?lLONG ?vLONG ?zLONG ?z_len ?z_ord ?z_int ?z_str ?z_min ?z_range ?z_isinstance ?aS ?lS ?cdS2 ?kpS2 ?aW ?lW ?cdW2 ?kpW2 ?aN ?lN ?cdN2 ?kpN2 ?aK ?lK ?cdK2 ?kpK2 ?aQ ?lQ ?cdQ2 ?kpQ2 ?aT ?lT ?cdT2 ?kpT2 ?aC ?lC ?cdC2 ?kpC2 ?aX ?lX ?cdX2 ?kpX2 ?aM ?lM ?cdM2 ?kpM2 ?aSt ?lSt ?cdSt2 ?kpSt2 ?aP ?lP ?cdP2 ?kpP2 ?aG ?lG ?cdG2 ?kpG2 ?aBd ?lBd ?cdBd2 ?kpBd2 ?aB ?lB ?cdB2 ?kpB2 ?aTo ?lTo ?cdTo2 ?kpTo2 ?aL ?lL ?cdL2 ?kpL2
    (case cnB => k_is)
    (case cnT => k_is)
    (case cnU => k_is)
    (case aCe => k_is)
    (case aNe => k_is)
    (case aQe => k_is)
    (case rdB => k_is)
    (case gaB => k_is)
    (case inB => k_is)
    (case ini0 => k_is)
    (case tI => k_is)
    (case lI => k_is)
    (case cdI2 => k_is)
    (case kpI => k_is)
    (case gcl => k_is)
    (case tcl => k_is)
    (case xC => k_is)
    (case saC => k_is)
    (case gaC => k_is)
    (case ggC => k_is)
    (case clC => k_is)
    (case inC => k_is)
    (case nrC => k_is)
    (case ncC => k_is)
    (case exC => k_is)
    (case tyC => k_is)
    (case kpC => k_is)
    (case hdC => k_is)
    (case moC => k_is)
    (case xN => k_is)
    (case saN => k_is)
    (case gaN => k_is)
    (case ggN => k_is)
    (case clN => k_is)
    (case inN => k_is)
    (case nrN => k_is)
    (case ncN => k_is)
    (case exN => k_is)
    (case tyN => k_is)
    (case kpN => k_is)
    (case hdN => k_is)
    (case moN => k_is)
    (case xQ => k_is)
    (case saQ => k_is)
    (case gaQ => k_is)
    (case ggQ => k_is)
    (case clQ => k_is)
    (case inQ => k_is)
    (case nrQ => k_is)
    (case ncQ => k_is)
    (case exQ => k_is)
    (case tyQ => k_is)
    (case kpQ => k_is)
    (case hdQ => k_is)
    (case moQ => k_is)
    (case tyB => k_is)
    (case hdB => k_is)
    (case tyT => k_is)
    (case hdT => k_is)
    (case tyU => k_is)
    (case hdU => k_is)
    (case sCC => first | rfl | k_is)
    (case sNC => k_is)
    (case sNN => first | rfl | k_is)
    (case sQC => k_is)
    (case sQN => k_is)
    (case sQQ => first | rfl | k_is)
    (case sCN => k_is)
    (case sCQ => k_is)
    (case sCU => k_is)
    (case sNQ => k_is)
    (case sNU => k_is)
    (case sQU => k_is)
    (case sCT => k_is)
    (case sNT => k_is)
    (case sQT => k_is)
    (case sQB => k_is)
    (case nCN => rfl)
    (case nCQ => rfl)
    (case nCU => rfl)
    (case nNQ => rfl)
    (case nNU => rfl)
    (case nQU => rfl)
    (case gLET => k_is)
    (case gDIG => k_is)
    (case gSHT => k_is)
    (case gMOST => k_is)
    (case gLGST => k_is)
    (case gPER => k_is)
    (case gBACK => k_is)
    (case gKEY => k_is)
    (case lKEY => k_is)
    (case vKEY => exact K01.vals_by (by repeat (first | exact trivial | refine ⟨⟨_, rfl⟩, ?_⟩)))
    (case zKEY => exact Nat.le_of_ble_eq_true rfl)
    (case gLONG => k_is)
    (case lLONG => k_is)
    (case vLONG => exact K01.vals_by (by repeat (first | exact trivial | refine ⟨⟨_, rfl⟩, ?_⟩)))
    (case zLONG => exact Nat.le_of_ble_eq_true rfl)
    (case z_len => k_is)
    (case z_ord => k_is)
    (case z_int => k_is)
    (case z_str => k_is)
    (case z_min => k_is)
    (case z_range => k_is)
    (case z_isinstance => k_is)
    (case aS => k_is)
    (case lS => k_is)
    (case cdS2 => k_is)
    (case kpS2 => k_is)
    (case aW => k_is)
    (case lW => k_is)
    (case cdW2 => k_is)
    (case kpW2 => k_is)
    (case aN => k_is)
    (case lN => k_is)
    (case cdN2 => k_is)
    (case kpN2 => k_is)
    (case aK => k_is)
    (case lK => k_is)
    (case cdK2 => k_is)
    (case kpK2 => k_is)
    (case aQ => k_is)
    (case lQ => k_is)
    (case cdQ2 => k_is)
    (case kpQ2 => k_is)
    (case aT => k_is)
    (case lT => k_is)
    (case cdT2 => k_is)
    (case kpT2 => k_is)
    (case aC => k_is)
    (case lC => k_is)
    (case cdC2 => k_is)
    (case kpC2 => k_is)
    (case aX => k_is)
    (case lX => k_is)
    (case cdX2 => k_is)
    (case kpX2 => k_is)
    (case aM => k_is)
    (case lM => k_is)
    (case cdM2 => k_is)
    (case kpM2 => k_is)
    (case aSt => k_is)
    (case lSt => k_is)
    (case cdSt2 => k_is)
    (case kpSt2 => k_is)
    (case aP => k_is)
    (case lP => k_is)
    (case cdP2 => k_is)
    (case kpP2 => k_is)
    (case aG => k_is)
    (case lG => k_is)
    (case cdG2 => k_is)
    (case kpG2 => k_is)
    (case aBd => k_is)
    (case lBd => k_is)
    (case cdBd2 => k_is)
    (case kpBd2 => k_is)
    (case aB => k_is)
    (case lB => k_is)
    (case cdB2 => k_is)
    (case kpB2 => k_is)
    (case aTo => k_is)
    (case lTo => k_is)
    (case cdTo2 => k_is)
    (case kpTo2 => k_is)
    (case aL => k_is)
    (case lL => k_is)
    (case cdL2 => k_is)
    (case kpL2 => k_is)
#print axioms PySem.Challenge.cw_tapline_k01_scripts_with_a_bad_place_holds
