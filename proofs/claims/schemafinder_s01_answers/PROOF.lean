import PyProof.Rows.All
import PyVacolo
import Wide.All
import OpenK.AllK
import Wide.FinOn
import Open.SpecLaws
import KE.OsGo
import HandS.ForSpec
import HandS.Flow
import HandS.Comp
import HandS.Dict
import HandS.Iter
import HandS.Conv
import HandS.CallLocal
import HandS.CallSlots
import HandS.TryMany
import HandS.ExcInit
import HandS.ExcField
import HandS.ExcInitHot
import HandS.SuiteRaise
import HandS.HotCalls
import HandS.Defaults
import HandS.HeadNt
import HandS.HeadHook4
import HandS.Lambda
import HandS.Deep
import HandS.Hot
import HandS.RaiseFrom
import HandS.DictTup
import HandS.SetKeys
import HandS.Remove
import KE.SortData
import PyProof.DictMoreH
import KE.KDictKeyed
import KE.KDictSum
import KE.KDictPairs
import KE.KDictCopyH
import KE.DataFind
import HandS.TupSets
import PyProof.Rows.SetFrom
import HandS.Walk
import HandS.NoneIn
import HandS.Zip
import HandS.Head4
import PySem.Challenge.RW_schemafinder_s01_answers
section -- P1
set_option linter.all false
/-! # P1: reading. The spec's reader: what is read is written again, fuel does not matter, what is read is well formed -/
namespace SF
open Vacola (Text Fault faultAt isDigit isLow nameSign goodName digitRun readQuoted worth decimal decimalInt digitsBefore plain hexOf hexSign showByte showStr)
open Vacolb (joinWith expect)
open Vacolo

/-! ### digits -/
theorem takeWhile_all {p : Nat → Bool} : ∀ {l : List Nat}, ∀ x ∈ l.takeWhile p, p x = true
  | [], _, h => by simp at h
  | a :: l, x, h => by
    by_cases c : p a = true
    · rw [List.takeWhile_cons_of_pos c] at h
      rcases List.mem_cons.mp h with rfl | h
      · exact c
      · exact takeWhile_all x h
    · rw [List.takeWhile_cons_of_neg c] at h
      simp at h
theorem run_split (p : Nat → Bool) (l : List Nat) : l = l.takeWhile p ++ l.dropWhile p := (List.takeWhile_append_dropWhile).symm
theorem digit_iff {c : Nat} : isDigit c = true ↔ 48 ≤ c ∧ c ≤ 57 := by
  unfold isDigit
  simp
theorem worth_snoc (t : Text) (c : Nat) : worth (t ++ [c]) = 10 * worth t + (c - 48) := by
  unfold worth
  rw [List.foldl_append]
  rfl
theorem foldl_ge : ∀ (t : Text) (n : Nat), n ≤ t.foldl (fun n c => 10 * n + (c - 48)) n
  | [], n => Nat.le_refl _
  | c :: t, n => by
    have := foldl_ge t (10 * n + (c - 48))
    simp only [List.foldl_cons]
    omega
theorem worth_pos {c : Nat} {t : Text} (h : 49 ≤ c) : 0 < worth (c :: t) := by
  unfold worth
  have := foldl_ge t (10 * 0 + (c - 48))
  simp only [List.foldl_cons]
  omega
/-- a run of digits without a zero in front is how its worth is written -/
theorem digits_back : ∀ (n : Nat) (t : Text), t.length = n + 1 → (∀ c ∈ t, isDigit c = true) → (t.head? = some 48 → t.length = 1) → ∀ (f : Nat) (acc : Text), worth t < f → digitsBefore f (worth t) acc = t ++ acc
  | n, t, hl, hd, hz, 0, acc, hf => by omega
  | 0, t, hl, hd, hz, f + 1, acc, hf => by
    match t, hl with
    | [c], _ => 
      have hc := digit_iff.mp (hd c (by simp))
      have e : worth [c] = c - 48 := by simp [worth]
      rw [e]
      unfold digitsBefore
      rw [if_pos (by omega)]
      have : 48 + (c - 48) = c := by omega
      rw [this]
      rfl
  | n + 1, t, hl, hd, hz, f + 1, acc, hf => by
    have hne : t ≠ [] := by intro e; rw [e] at hl; simp at hl
    obtain ⟨c, e⟩ : ∃ c, t = t.dropLast ++ [c] := ⟨t.getLast hne, (List.dropLast_concat_getLast hne).symm⟩
    have hl2 : t.dropLast.length = n + 1 := by rw [List.length_dropLast]; omega
    have hc := digit_iff.mp (hd c (by rw [e]; simp))
    have hd2 : ∀ c ∈ t.dropLast, isDigit c = true := fun c h => hd c (by rw [e]; exact List.mem_append_left _ h)
    have hw : worth t = 10 * worth t.dropLast + (c - 48) := by rw [e, worth_snoc]; simp
    have hh : t.dropLast.head? = t.head? := by
      cases q : t.dropLast with
      | nil => rw [q] at hl2; simp at hl2
      | cons a r =>
        rw [q] at e
        rw [e]
        rfl
    have hz2 : t.dropLast.head? = some 48 → t.dropLast.length = 1 := fun h => by
      have := hz (by rw [← hh]; exact h)
      omega
    have hp : 0 < worth t.dropLast := by
      cases q : t.dropLast with
      | nil => rw [q] at hl2; simp at hl2
      | cons a r =>
        have ha := digit_iff.mp (hd2 a (by rw [q]; simp))
        refine worth_pos ?_
        rcases Nat.lt_or_ge 48 a with h | h
        · exact h
        · have ea : a = 48 := by omega
          rw [q, ea] at hh
          have := hz hh.symm
          omega
    have ih := digits_back n t.dropLast hl2 hd2 hz2 f ((48 + (c - 48)) :: acc) (by omega)
    unfold digitsBefore
    rw [if_neg (by omega)]
    have e1 : worth t / 10 = worth t.dropLast := by omega
    have e2 : worth t % 10 = c - 48 := by omega
    rw [e1, e2, ih]
    have : 48 + (c - 48) = c := by omega
    rw [this]
    calc t.dropLast ++ c :: acc = (t.dropLast ++ [c]) ++ acc := by simp
      _ = t ++ acc := by rw [← e]
theorem digitRun_back {t r : Text} {n : Nat} (h : digitRun t = some (n, r)) : t = decimal n ++ r ∧ (∃ c, t.head? = some c ∧ isDigit c = true) := by
  unfold digitRun at h
  simp only at h
  split at h
  · cases h
  · rename_i hn
    simp only [Option.some.injEq, Prod.mk.injEq] at h
    obtain ⟨h1, h2⟩ := h
    have hne : t.takeWhile isDigit ≠ [] := fun z => hn (.inl z)
    have hall : ∀ c ∈ t.takeWhile isDigit, isDigit c = true := takeWhile_all
    constructor
    · have hd := digits_back ((t.takeWhile isDigit).length - 1) (t.takeWhile isDigit) (by have := List.length_pos_iff.mpr hne; omega) hall
        (fun z => by
          have := List.length_pos_iff.mpr hne
          rcases Nat.lt_or_ge 1 (t.takeWhile isDigit).length with q | q
          · exact absurd (Or.inr ⟨z, q⟩) hn
          · omega) (n + 1) [] (by rw [h1]; omega)
      rw [h1] at hd
      unfold decimal
      rw [hd, List.append_nil, ← h2]
      exact run_split _ _
    · match t, hne, hall with
      | c :: r', hne, hall =>
        refine ⟨c, rfl, ?_⟩
        cases q : isDigit c with
        | true => rfl
        | false =>
          exfalso
          apply hne
          rw [List.takeWhile_cons_of_neg (by rw [q]; simp)]

/-! ### text literals -/
theorem hex_back {a x : Nat} (h : hexOf a = some x) : hexSign x = a ∧ x < 16 := by
  unfold hexOf at h
  split at h
  · rename_i c
    have := digit_iff.mp c
    simp only [Option.some.injEq] at h
    unfold hexSign
    constructor
    · rw [if_pos (by omega)]; omega
    · omega
  · split at h
    · simp only [Option.some.injEq] at h
      unfold hexSign
      constructor
      · rw [if_neg (by omega)]; omega
      · omega
    · cases h
theorem quoted_back : ∀ (n : Nat) (t s r : Text), t.length ≤ n → readQuoted t = some (s, r) → t = s.flatMap showByte ++ 34 :: r
  | n, [], s, r, hl, h => by simp [readQuoted] at h
  | 0, c :: t, s, r, hl, h => by simp at hl
  | n + 1, c :: t, s, r, hl, h => by
    have hl' : t.length ≤ n := by simpa using hl
    unfold readQuoted at h
    split at h
    · rename_i e; cases e
    · rename_i r' e
      injection e with e1 e2
      subst e1 e2
      simp only [Option.some.injEq, Prod.mk.injEq] at h
      obtain ⟨rfl, rfl⟩ := h
      rfl
    · rename_i a b r' e
      injection e with e1 e2
      subst e1 e2
      cases ha : hexOf a with
      | none => simp [ha] at h
      | some x =>
        cases hb : hexOf b with
        | none => simp [ha, hb] at h
        | some y =>
          simp only [ha, hb] at h
          by_cases p : plain (16 * x + y) = true
          · simp [p] at h
          · simp only [p] at h
            cases q : readQuoted r' with
            | none => simp [q] at h
            | some z =>
              simp only [q] at h
              have h' : ((16 * x + y) :: z.1, z.2) = (s, r) := by simpa using h
              have e1 : s = (16 * x + y) :: z.1 := (Prod.mk.inj h').1.symm
              have e2 : r = z.2 := (Prod.mk.inj h').2.symm
              subst e1 e2
              have ih := quoted_back n r' z.1 z.2 (by simp at hl'; omega) q
              obtain ⟨ea, la⟩ := hex_back ha
              obtain ⟨eb, lb⟩ := hex_back hb
              have d1 : (16 * x + y) / 16 = x := by omega
              have d2 : (16 * x + y) % 16 = y := by omega
              have es : showByte (16 * x + y) = [92, a, b] := by
                unfold showByte
                rw [if_neg p, d1, d2, ea, eb]
              rw [List.flatMap_cons, es, ih]
              rfl
    · rename_i c' r' h1 h2 e
      injection e with e1 e2
      subst e1 e2
      by_cases p : plain c = true
      · simp only [p] at h
        cases q : readQuoted t with
        | none => simp [q] at h
        | some z =>
          simp only [q] at h
          have h' : (c :: z.1, z.2) = (s, r) := by simpa using h
          have e1 : s = c :: z.1 := (Prod.mk.inj h').1.symm
          have e2 : r = z.2 := (Prod.mk.inj h').2.symm
          subst e1 e2
          have ih := quoted_back n t z.1 z.2 hl' q
          have es : showByte c = [c] := by
            unfold showByte
            rw [if_pos p]
          rw [List.flatMap_cons, es, ih]
          rfl
      · simp [p] at h

/-! ### names -/
theorem readName_ok {t s r : Text} (h : readName t = .ok (s, r)) : t = s ++ r ∧ goodName s = true ∧ s = t.takeWhile nameSign ∧ r = t.dropWhile nameSign := by
  unfold readName at h
  simp only at h
  split at h
  · rename_i g
    simp only [Except.ok.injEq, Prod.mk.injEq] at h
    obtain ⟨rfl, rfl⟩ := h
    exact ⟨run_split _ _, g, rfl, rfl⟩
  · cases h
theorem expect_ok {c : Nat} {t r : Text} (h : expect c t = .ok r) : t = c :: r := by
  unfold expect at h
  split at h
  · split at h
    · rename_i e
      simp only [Except.ok.injEq] at h
      rw [e, h]
    · cases h
  · cases h
theorem good_ne {s : Text} (h : goodName s = true) : s ≠ [] := by
  intro e
  rw [e] at h
  cases h

/-! ### numbers -/
theorem readNum_ok {t r : Text} {v : Loose} (h : readNum t = .ok (v, r)) : ∃ z, v = .num z ∧ LOW ≤ z ∧ z ≤ HIGH ∧ t = decimalInt z ++ r := by
  unfold readNum at h
  simp only at h
  cases hl : t.head? == some 45 with
  | true =>
    have e : t = 45 :: t.drop 1 := by
      match t, hl with
      | a :: r, hl =>
        simp at hl
        subst hl
        rfl
    rw [hl] at h
    simp only [if_true] at h
    cases q : digitRun (t.drop 1) with
    | none =>
      rw [q] at h
      cases h
    | some x =>
      rw [q] at h
      dsimp only at h
      split at h
      · cases h
      · rename_i hz
        split at h
        · rename_i hb
          simp only [Except.ok.injEq, Prod.mk.injEq] at h
          obtain ⟨rfl, rfl⟩ := h
          refine ⟨_, rfl, hb.1, hb.2, ?_⟩
          obtain ⟨e2, _⟩ := digitRun_back (n := x.1) (r := x.2) q
          have hx : x.1 ≠ 0 := fun z => hz ⟨trivial, z⟩
          unfold decimalInt
          rw [if_pos (show (-(x.1 : Int)) < 0 by omega)]
          have : (-(x.1 : Int)).natAbs = x.1 := by omega
          rw [this, e]
          show 45 :: t.drop 1 = _
          rw [e2]
          rfl
        · cases h
  | false =>
    rw [hl] at h
    simp only [Bool.false_eq_true, if_false, false_and] at h
    cases q : digitRun t with
    | none =>
      rw [q] at h
      cases h
    | some x =>
      rw [q] at h
      dsimp only at h
      split at h
      · rename_i hb
        simp only [Except.ok.injEq, Prod.mk.injEq] at h
        obtain ⟨rfl, rfl⟩ := h
        refine ⟨_, rfl, hb.1, hb.2, ?_⟩
        obtain ⟨e2, _⟩ := digitRun_back (n := x.1) (r := x.2) q
        unfold decimalInt
        rw [if_neg (show ¬ ((x.1 : Nat) : Int) < 0 by omega)]
        have : ((x.1 : Nat) : Int).natAbs = x.1 := by omega
        rw [this]
        exact e2
      · cases h
end SF
end -- P1

section -- P2
set_option linter.all false
/-! # P2: the reader without its bound; what is read, is written so, and is well formed -/
namespace SF
open Vacola (Text Fault faultAt isDigit isLow nameSign goodName digitRun readQuoted worth decimal decimalInt digitsBefore plain hexOf hexSign showByte showStr)
open Vacolb (joinWith expect)
open Vacolo

/-! ### results shorten -/
theorem readName_len {t s r : Text} (h : readName t = .ok (s, r)) : r.length < t.length := by
  obtain ⟨e, g, _⟩ := readName_ok h
  have := List.length_pos_iff.mpr (good_ne g)
  rw [e, List.length_append]
  omega
theorem expect_len {c : Nat} {t r : Text} (h : expect c t = .ok r) : r.length < t.length := by
  rw [expect_ok h]
  simp
theorem readNum_len {t r : Text} {v : Loose} (h : readNum t = .ok (v, r)) : r.length ≤ t.length := by
  obtain ⟨z, _, _, _, e⟩ := readNum_ok h
  rw [e, List.length_append]
  omega
theorem quoted_len {t s r : Text} (h : readQuoted t = some (s, r)) : r.length < t.length := by
  rw [quoted_back t.length t s r (Nat.le_refl _) h, List.length_append]
  simp
  omega
theorem map_ok {A B : Type} {f : A → B} {x : Except Fault A} {b : B} (h : x.map f = .ok b) : ∃ a, x = .ok a ∧ f a = b := by
  cases x with
  | error e => cases h
  | ok a => exact ⟨a, rfl, Except.ok.inj h⟩
theorem bind_ok {A B : Type} {f : A → Except Fault B} {x : Except Fault A} {b : B} (h : (x >>= f) = .ok b) : ∃ a, x = .ok a ∧ f a = .ok b := by
  cases x with
  | error e => cases h
  | ok a => exact ⟨a, rfl, h⟩
theorem pair_eta {A B : Type} (x : A × B) : (x.1, x.2) = x := rfl
theorem L0 (d : Nat) (t : Text) : readLoose 0 d t = faultAt 1 t := by rw [readLoose.eq_def]
theorem L1 (f d : Nat) : readLoose (f + 1) d [] = faultAt 1 [] := by rw [readLoose.eq_def]
theorem Lc (f d c : Nat) (r : Text) : readLoose (f + 1) d (c :: r) =
    if isDigit c || c == 45 then readNum (c :: r)
    else if c = 34 then (match readQuoted r with
      | none => faultAt 1 (c :: r)
      | some (s, u) => if s.length ≤ LONGEST then .ok (.str s, u) else faultAt 3 (c :: r))
    else if c = 123 then (if DEEP < d then faultAt 4 (c :: r)
      else if r.head? = some 125 then .ok (.record [], r.drop 1)
      else (readFields f d [] r).map fun x => (.record x.1, x.2))
    else if c = 60 then (if DEEP < d then faultAt 4 (c :: r) else
      readName r >>= fun x => expect 58 x.2 >>= fun v => readLoose f (d + 1) v >>= fun y => expect 62 y.2 >>= fun z => .ok (.alt x.1 y.1, z))
    else faultAt 1 (c :: r) := by
  rw [readLoose.eq_def]
  rfl
theorem F0 (d : Nat) (b : List Text) (t : Text) : readFields 0 d b t = faultAt 1 t := by rw [readFields.eq_def]
theorem Fs (f d : Nat) (b : List Text) (t : Text) : readFields (f + 1) d b t = readName t >>= fun x =>
    if b.contains x.1 then faultAt 2 t
    else expect 58 x.2 >>= fun v => readOccurrences f d v >>= fun o => (match o.2 with
      | 59 :: y => (readFields f d (x.1 :: b) y).map fun z => ((x.1, o.1) :: z.1, z.2)
      | 125 :: y => .ok ([(x.1, o.1)], y)
      | _ => faultAt 1 o.2) := by
  rw [readFields.eq_def]
  rfl
theorem O0 (d : Nat) (t : Text) : readOccurrences 0 d t = faultAt 1 t := by rw [readOccurrences.eq_def]
theorem Os (f d : Nat) (t : Text) : readOccurrences (f + 1) d t = readLoose f (d + 1) t >>= fun v => (match v.2 with
      | 44 :: w => (readOccurrences f d w).map fun x => (v.1 :: x.1, x.2)
      | _ => .ok ([v.1], v.2)) := by
  rw [readOccurrences.eq_def]
  rfl
theorem lens : ∀ (f : Nat), (∀ d t v r, readLoose f d t = .ok (v, r) → r.length ≤ t.length) ∧ (∀ d b t fs r, readFields f d b t = .ok (fs, r) → r.length < t.length) ∧ (∀ d t vs r, readOccurrences f d t = .ok (vs, r) → r.length ≤ t.length) := by
  intro f
  induction f with
  | zero =>
    refine ⟨fun d t v r h => ?_, fun d b t fs r h => ?_, fun d t vs r h => ?_⟩
    · rw [L0] at h; cases h
    · rw [F0] at h; cases h
    · rw [O0] at h; cases h
  | succ f ih =>
    obtain ⟨iL, iF, iO⟩ := ih
    refine ⟨fun d t v r h => ?_, fun d b t fs r h => ?_, fun d t vs r h => ?_⟩
    · cases t with
      | nil => rw [L1] at h; cases h
      | cons c t =>
        rw [Lc] at h
        split at h
        · exact readNum_len h
        · split at h
          · split at h
            · cases h
            · rename_i s u hq
              split at h
              · have e := Except.ok.inj h
                have e2 : u = r := (Prod.mk.inj e).2
                rw [← e2]
                have := quoted_len hq
                simp
                omega
              · cases h
          · split at h
            · split at h
              · cases h
              · split at h
                · have e := Except.ok.inj h
                  have e2 : t.drop 1 = r := (Prod.mk.inj e).2
                  rw [← e2]
                  simp
                  omega
                · obtain ⟨a, h1, h2⟩ := map_ok h
                  have e2 : a.2 = r := (Prod.mk.inj h2).2
                  have := iF _ _ _ a.1 a.2 h1
                  rw [← e2]
                  simp
                  omega
            · split at h
              · split at h
                · cases h
                · obtain ⟨⟨nm, u⟩, h1, h⟩ := bind_ok h
                  obtain ⟨w, h2, h⟩ := bind_ok h
                  obtain ⟨⟨x, y⟩, h3, h⟩ := bind_ok h
                  obtain ⟨z, h4, h⟩ := bind_ok h
                  have e2 : z = r := (Prod.mk.inj (Except.ok.inj h)).2
                  dsimp only at h2 h4
                  have a1 := readName_len h1
                  have a2 := expect_len h2
                  have a3 := iL _ _ _ _ h3
                  have a4 := expect_len h4
                  rw [← e2]
                  simp
                  omega
              · cases h
    · rw [Fs] at h
      obtain ⟨⟨nm, u⟩, h1, h⟩ := bind_ok h
      have a1 := readName_len h1
      dsimp only at h
      split at h
      · cases h
      · obtain ⟨w, h2, h⟩ := bind_ok h
        have a2 := expect_len h2
        obtain ⟨⟨o, y⟩, h3, h⟩ := bind_ok h
        have a3 := iO _ _ _ _ h3
        dsimp only at h
        split at h
        · obtain ⟨a, h4, h5⟩ := map_ok h
          have a4 := iF _ _ _ a.1 a.2 h4
          have e2 : a.2 = r := (Prod.mk.inj h5).2
          rw [← e2]
          simp at a3
          omega
        · have e2 := (Prod.mk.inj (Except.ok.inj h)).2
          rw [← e2]
          simp at a3
          omega
        · cases h
    · rw [Os] at h
      obtain ⟨⟨v, u⟩, h1, h⟩ := bind_ok h
      have a1 := iL _ _ _ _ h1
      dsimp only at h
      split at h
      · obtain ⟨a, h4, h5⟩ := map_ok h
        have a4 := iO _ _ a.1 a.2 h4
        have e2 : a.2 = r := (Prod.mk.inj h5).2
        rw [← e2]
        simp at a1
        omega
      · have e2 := (Prod.mk.inj (Except.ok.inj h)).2
        rw [← e2]
        exact a1
/-! ### the bound does not matter -/
theorem bind_cong {A B : Type} {x : Except Fault A} {f g : A → Except Fault B} (h : ∀ a, x = .ok a → f a = g a) : (x >>= f) = (x >>= g) := by
  cases x with
  | error e => rfl
  | ok a => exact h a rfl
theorem fuels : ∀ (n f g : Nat), (∀ d t, t.length ≤ n → 2 * t.length + 1 ≤ f → 2 * t.length + 1 ≤ g → readLoose f d t = readLoose g d t) ∧ (∀ d b t, t.length ≤ n → 2 * t.length + 1 ≤ f → 2 * t.length + 1 ≤ g → readFields f d b t = readFields g d b t) ∧
    (∀ d t, t.length ≤ n → 2 * t.length + 2 ≤ f → 2 * t.length + 2 ≤ g → readOccurrences f d t = readOccurrences g d t) := by
  intro n
  induction n with
  | zero =>
    intro f g
    have l0 : ∀ (f g d : Nat) (t : Text), t.length ≤ 0 → 1 ≤ f → 1 ≤ g → readLoose f d t = readLoose g d t := by
      intro f g d t hl hf hg
      match f, g, t, hl with
      | f + 1, g + 1, [], _ => rw [L1, L1]
    refine ⟨fun d t hl hf hg => l0 f g d t hl (by omega) (by omega), fun d b t hl hf hg => ?_, fun d t hl hf hg => ?_⟩
    · match f, g, t, hl with
      | f + 1, g + 1, [], _ =>
        rw [Fs, Fs]
        rfl
    · match f, g, t, hl with
      | f + 1, g + 1, [], _ =>
        rw [Os, Os, l0 f g (d + 1) [] (Nat.le_refl _) (by simp at hf; omega) (by simp at hg; omega)]
        refine bind_cong fun a ha => ?_
        have := (lens g).1 _ _ a.1 a.2 ha
        have e : a.2 = [] := List.length_eq_zero_iff.mp (by simpa using this)
        rw [e]
  | succ n ih =>
    have hL : ∀ (f g d : Nat) (t : Text), t.length ≤ n + 1 → 2 * t.length + 1 ≤ f → 2 * t.length + 1 ≤ g → readLoose f d t = readLoose g d t := by
      intro f g d t hl hf hg
      match f, g with
      | 0, _ => omega
      | f + 1, 0 => omega
      | f + 1, g + 1 =>
        cases t with
        | nil => rw [L1, L1]
        | cons c t =>
          simp only [List.length_cons] at hl hf hg
          rw [Lc, Lc]
          rw [(ih f g).2.1 d [] t (by omega) (by omega) (by omega)]
          have key : ∀ (nm u : Text), readName t = .ok (nm, u) → ∀ w, expect 58 u = .ok w → readLoose f (d + 1) w = readLoose g (d + 1) w := fun nm u h1 w h2 => by
            have a1 := readName_len h1
            have a2 := expect_len h2
            exact (ih f g).1 _ _ (by omega) (by omega) (by omega)
          congr 1
          congr 1
          congr 1
          congr 1
          congr 1
          refine bind_cong fun a h1 => ?_
          refine bind_cong fun w h2 => ?_
          rw [key a.1 a.2 h1 w h2]
    have hO : ∀ (f g d : Nat) (t : Text), t.length ≤ n + 1 → 2 * t.length + 2 ≤ f → 2 * t.length + 2 ≤ g → readOccurrences f d t = readOccurrences g d t := by
      intro f g d t hl hf hg
      match f, g with
      | 0, _ => omega
      | f + 1, 0 => omega
      | f + 1, g + 1 =>
        rw [Os, Os, hL f g (d + 1) t hl (by omega) (by omega)]
        refine bind_cong fun a h1 => ?_
        have a1 := (lens g).1 _ _ a.1 a.2 h1
        split
        · rename_i w e
          rw [e] at a1
          simp only [List.length_cons] at a1
          rw [(ih f g).2.2 d w (by omega) (by omega) (by omega)]
        · rfl
    intro f g
    refine ⟨fun d t => hL f g d t, fun d b t hl hf hg => ?_, fun d t => hO f g d t⟩
    match f, g with
    | 0, _ => omega
    | f + 1, 0 => omega
    | f + 1, g + 1 =>
      rw [Fs, Fs]
      refine bind_cong fun a h1 => ?_
      have a1 := readName_len (t := t) (s := a.1) (r := a.2) h1
      split
      · rfl
      · refine bind_cong fun w h2 => ?_
        have a2 := expect_len h2
        rw [(ih f g).2.2 d w (by omega) (by omega) (by omega)]
        refine bind_cong fun o h3 => ?_
        have a3 := (lens g).2.2 _ _ o.1 o.2 h3
        split
        · rename_i y e
          rw [e] at a3
          simp only [List.length_cons] at a3
          rw [(ih f g).2.1 d (a.1 :: b) y (by omega) (by omega) (by omega)]
        · rfl
        · rfl
/-- the reader of a value, of fields, of occurrences -/
def rl (d : Nat) (t : Text) : Except Fault (Loose × Text) := readLoose (2 * t.length + 2) d t
def rf (d : Nat) (b : List Text) (t : Text) : Except Fault (List (Text × List Loose) × Text) := readFields (2 * t.length + 2) d b t
def ro (d : Nat) (t : Text) : Except Fault (List Loose × Text) := readOccurrences (2 * t.length + 2) d t
theorem rl_is {f d : Nat} {t : Text} (h : 2 * t.length + 1 ≤ f) : readLoose f d t = rl d t := (fuels t.length f (2 * t.length + 2)).1 d t (Nat.le_refl _) h (by omega)
theorem rf_is {f d : Nat} {b : List Text} {t : Text} (h : 2 * t.length + 1 ≤ f) : readFields f d b t = rf d b t := (fuels t.length f (2 * t.length + 2)).2.1 d b t (Nat.le_refl _) h (by omega)
theorem ro_is {f d : Nat} {t : Text} (h : 2 * t.length + 2 ≤ f) : readOccurrences f d t = ro d t := (fuels t.length f (2 * t.length + 2)).2.2 d t (Nat.le_refl _) h (by omega)
theorem rl_nil (d : Nat) : rl d [] = faultAt 1 [] := by
  exact L1 _ _
theorem rl_cons (d c : Nat) (r : Text) : rl d (c :: r) =
    if isDigit c || c == 45 then readNum (c :: r)
    else if c = 34 then (match readQuoted r with
      | none => faultAt 1 (c :: r)
      | some (s, u) => if s.length ≤ LONGEST then .ok (.str s, u) else faultAt 3 (c :: r))
    else if c = 123 then (if DEEP < d then faultAt 4 (c :: r)
      else if r.head? = some 125 then .ok (.record [], r.drop 1)
      else (rf d [] r).map fun x => (.record x.1, x.2))
    else if c = 60 then (if DEEP < d then faultAt 4 (c :: r) else
      readName r >>= fun x => expect 58 x.2 >>= fun v => rl (d + 1) v >>= fun y => expect 62 y.2 >>= fun z => .ok (.alt x.1 y.1, z))
    else faultAt 1 (c :: r) := by
  have e : rl d (c :: r) = readLoose (2 * r.length + 3 + 1) d (c :: r) := (rl_is (by simp; omega)).symm
  have key : (readName r >>= fun x => expect 58 x.2 >>= fun v => readLoose (2 * r.length + 3) (d + 1) v >>= fun y => expect 62 y.2 >>= fun z => (.ok (.alt x.1 y.1, z) : Except Fault (Loose × Text))) =
      (readName r >>= fun x => expect 58 x.2 >>= fun v => rl (d + 1) v >>= fun y => expect 62 y.2 >>= fun z => (.ok (.alt x.1 y.1, z) : Except Fault (Loose × Text))) := by
    refine bind_cong fun a h1 => ?_
    refine bind_cong fun w h2 => ?_
    have a1 := readName_len (t := r) (s := a.1) (r := a.2) h1
    have a2 := expect_len h2
    rw [rl_is (f := 2 * r.length + 3) (by omega)]
  rw [e, Lc, rf_is (f := 2 * r.length + 3) (by omega), key]
theorem rf_eq (d : Nat) (b : List Text) (t : Text) : rf d b t = readName t >>= fun x =>
    if b.contains x.1 then faultAt 2 t
    else expect 58 x.2 >>= fun v => ro d v >>= fun o => (match o.2 with
      | 59 :: y => (rf d (x.1 :: b) y).map fun z => ((x.1, o.1) :: z.1, z.2)
      | 125 :: y => .ok ([(x.1, o.1)], y)
      | _ => faultAt 1 o.2) := by
  have e : rf d b t = readFields (2 * t.length + 1 + 1) d b t := rfl
  rw [e, Fs]
  refine bind_cong fun a h1 => ?_
  have a1 := readName_len (t := t) (s := a.1) (r := a.2) h1
  split
  · rfl
  · refine bind_cong fun w h2 => ?_
    have a2 := expect_len h2
    rw [ro_is (f := 2 * t.length + 1) (by omega)]
    refine bind_cong fun o h3 => ?_
    have a3 := (lens _).2.2 _ _ o.1 o.2 h3
    split
    · rename_i y e
      rw [e] at a3
      simp only [List.length_cons] at a3
      rw [rf_is (f := 2 * t.length + 1) (by omega)]
    · rfl
    · rfl
theorem ro_eq (d : Nat) (t : Text) : ro d t = rl (d + 1) t >>= fun v => (match v.2 with
      | 44 :: w => (ro d w).map fun x => (v.1 :: x.1, x.2)
      | _ => .ok ([v.1], v.2)) := by
  have e : ro d t = readOccurrences (2 * t.length + 1 + 1) d t := rfl
  rw [e, Os, rl_is (f := 2 * t.length + 1) (by omega)]
  refine bind_cong fun a h1 => ?_
  have a1 := (lens _).1 _ _ a.1 a.2 h1
  split
  · rename_i y e
    rw [e] at a1
    simp only [List.length_cons] at a1
    rw [ro_is (f := 2 * t.length + 1) (by omega)]
  · rfl
end SF
end -- P2

section -- P3
set_option linter.all false
/-! # P3: what is read is written so, and is well formed -/
namespace SF
open Vacola (Text Fault faultAt isDigit isLow nameSign goodName digitRun readQuoted worth decimal decimalInt digitsBefore plain hexOf hexSign showByte showStr)
open Vacolb (joinWith expect)
open Vacolo
/-- a value within so many groups, as it is read -/
def wf : Nat → Loose → Prop
  | _, .num z => LOW ≤ z ∧ z ≤ HIGH
  | _, .str s => s.length ≤ LONGEST
  | 0, .record _ => False
  | 0, .alt _ _ => False
  | d + 1, .record fs => (fs.map fun x => x.1).Nodup ∧ ∀ x ∈ fs, goodName x.1 = true ∧ x.2 ≠ [] ∧ ∀ v ∈ x.2, wf d v
  | d + 1, .alt n v => goodName n = true ∧ wf d v
theorem wf_num {d : Nat} {z : Int} : wf d (.num z) ↔ LOW ≤ z ∧ z ≤ HIGH := by
  cases d <;> unfold wf <;> exact Iff.rfl
theorem wf_str {d : Nat} {s : Text} : wf d (.str s) ↔ s.length ≤ LONGEST := by
  cases d <;> unfold wf <;> exact Iff.rfl
theorem wf_rec {d : Nat} {fs : List (Text × List Loose)} : wf (d + 1) (.record fs) ↔ (fs.map fun x => x.1).Nodup ∧ ∀ x ∈ fs, goodName x.1 = true ∧ x.2 ≠ [] ∧ ∀ v ∈ x.2, wf d v := by
  rw [wf]
theorem wf_alt {d : Nat} {n : Text} {v : Loose} : wf (d + 1) (.alt n v) ↔ goodName n = true ∧ wf d v := by
  rw [wf]
theorem show_num (D : Nat) (z : Int) : showLoose D (.num z) = decimalInt z := by cases D <;> rw [showLoose]
theorem show_str (D : Nat) (s : Text) : showLoose D (.str s) = showStr s := by cases D <;> rw [showLoose]
def showF (D : Nat) (x : Text × List Loose) : Text := x.1 ++ (58 :: joinWith 44 (x.2.map fun v => showLoose D v))
theorem show_rec (D : Nat) (fs : List (Text × List Loose)) : showLoose (D + 1) (.record fs) = 123 :: (joinWith 59 (fs.map (showF D)) ++ [125]) := by
  rw [showLoose]
  rfl
theorem show_alt (D : Nat) (n : Text) (v : Loose) : showLoose (D + 1) (.alt n v) = 60 :: (n ++ (58 :: (showLoose D v ++ [62]))) := by
  rw [showLoose]
theorem join_cons (c : Nat) (s : Text) (l : List Text) (h : l ≠ []) : joinWith c (s :: l) = s ++ (c :: joinWith c l) := by
  cases l with
  | nil => exact absurd rfl h
  | cons a r => rw [joinWith]; simp
theorem join_one (c : Nat) (s : Text) : joinWith c [s] = s := by rw [joinWith]
structure FsOk (d : Nat) (b : List Text) (fs : List (Text × List Loose)) : Prop where
  nd : (fs.map fun x => x.1).Nodup
  out : ∀ x ∈ fs, x.1 ∉ b
  ok : ∀ x ∈ fs, goodName x.1 = true ∧ x.2 ≠ [] ∧ ∀ v ∈ x.2, wf d v
  ne : fs ≠ []
theorem backs : ∀ (n : Nat), (∀ d t v r, t.length ≤ n → d ≤ 7 → rl d t = .ok (v, r) → (∀ D, 7 ≤ D + d → t = showLoose D v ++ r) ∧ wf (7 - d) v) ∧
    (∀ d b t fs r, t.length ≤ n → d ≤ 6 → rf d b t = .ok (fs, r) → (∀ D, 6 ≤ D + d → t = joinWith 59 (fs.map (showF D)) ++ 125 :: r) ∧ FsOk (6 - d) b fs) ∧
    (∀ d t vs r, t.length ≤ n → d ≤ 6 → ro d t = .ok (vs, r) → (∀ D, 6 ≤ D + d → t = joinWith 44 (vs.map fun v => showLoose D v) ++ r) ∧ (∀ v ∈ vs, wf (6 - d) v) ∧ vs ≠ []) := by
  intro n
  induction n with
  | zero =>
    have hL : ∀ d t v r, t.length ≤ 0 → rl d t = .ok (v, r) → False := fun d t v r hl h => by
      have e : t = [] := List.length_eq_zero_iff.mp (by omega)
      rw [e, rl_nil] at h
      cases h
    refine ⟨fun d t v r hl _ h => (hL d t v r hl h).elim, fun d b t fs r hl _ h => ?_, fun d t vs r hl _ h => ?_⟩
    · have e : t = [] := List.length_eq_zero_iff.mp (by omega)
      rw [e, rf_eq] at h
      obtain ⟨a, h1, _⟩ := bind_ok h
      have := readName_len (t := []) (s := a.1) (r := a.2) h1
      simp at this
    · rw [ro_eq] at h
      obtain ⟨a, h1, _⟩ := bind_ok h
      exact (hL _ _ a.1 a.2 hl h1).elim
  | succ n ih =>
    obtain ⟨iL, iF, iO⟩ := ih
    have hL : ∀ d t v r, t.length ≤ n + 1 → d ≤ 7 → rl d t = .ok (v, r) → (∀ D, 7 ≤ D + d → t = showLoose D v ++ r) ∧ wf (7 - d) v := by
      intro d t v r hl hd h
      cases t with
      | nil => rw [rl_nil] at h; cases h
      | cons c t =>
        simp only [List.length_cons] at hl
        rw [rl_cons] at h
        split at h
        · obtain ⟨z, rfl, h1, h2, e⟩ := readNum_ok h
          exact ⟨fun D _ => by rw [show_num]; exact e, wf_num.mpr ⟨h1, h2⟩⟩
        · split at h
          · rename_i hc
            split at h
            · cases h
            · rename_i s u hq
              split at h
              · rename_i hz
                obtain ⟨e1, e2⟩ := Prod.mk.inj (Except.ok.inj h)
                subst e1 e2
                refine ⟨fun D _ => ?_, wf_str.mpr hz⟩
                rw [show_str, hc, quoted_back _ _ _ _ (Nat.le_refl _) hq]
                unfold showStr
                simp
              · cases h
          · split at h
            · rename_i hc
              split at h
              · cases h
              · rename_i hdp
                have hd6 : d ≤ 6 := by
                  have : ¬ 6 < d := hdp
                  omega
                split at h
                · rename_i hh
                  obtain ⟨e1, e2⟩ := Prod.mk.inj (Except.ok.inj h)
                  subst e1 e2
                  refine ⟨fun D hD => ?_, ?_⟩
                  · obtain ⟨D', rfl⟩ : ∃ D', D = D' + 1 := ⟨D - 1, by omega⟩
                    rw [show_rec, hc]
                    cases t with
                    | nil => cases hh
                    | cons x r => 
                      have : x = 125 := Option.some.inj hh
                      rw [this]
                      rfl
                  · rw [show 7 - d = (6 - d) + 1 by omega]
                    exact wf_rec.mpr ⟨List.nodup_nil, fun x hx => absurd hx (by simp)⟩
                · obtain ⟨a, h1, h2⟩ := map_ok h
                  obtain ⟨e1, e2⟩ := Prod.mk.inj h2
                  subst e1 e2
                  obtain ⟨k1, k2⟩ := iF d [] t a.1 a.2 (by omega) hd6 h1
                  refine ⟨fun D hD => ?_, ?_⟩
                  · obtain ⟨D', rfl⟩ : ∃ D', D = D' + 1 := ⟨D - 1, by omega⟩
                    rw [show_rec, hc]
                    conv => lhs; rw [k1 D' (by omega)]
                    simp
                  · rw [show 7 - d = (6 - d) + 1 by omega]
                    exact wf_rec.mpr ⟨k2.nd, k2.ok⟩
            · split at h
              · rename_i hc
                split at h
                · cases h
                · rename_i hdp
                  have hd6 : d ≤ 6 := by
                    have : ¬ 6 < d := hdp
                    omega
                  obtain ⟨a, h1, h⟩ := bind_ok h
                  obtain ⟨w, h2, h⟩ := bind_ok h
                  obtain ⟨y, h3, h⟩ := bind_ok h
                  obtain ⟨z, h4, h⟩ := bind_ok h
                  obtain ⟨e1, e2⟩ := Prod.mk.inj (Except.ok.inj h)
                  subst e1 e2
                  obtain ⟨b1, b2, _⟩ := readName_ok (t := t) (s := a.1) (r := a.2) h1
                  have b3 := expect_ok h2
                  have b4 := expect_ok h4
                  have l1 := readName_len (t := t) (s := a.1) (r := a.2) h1
                  have l2 := expect_len h2
                  obtain ⟨k1, k2⟩ := iL (d + 1) w y.1 y.2 (by omega) (by omega) h3
                  refine ⟨fun D hD => ?_, ?_⟩
                  · obtain ⟨D', rfl⟩ : ∃ D', D = D' + 1 := ⟨D - 1, by omega⟩
                    rw [show_alt, hc]
                    conv => lhs; rw [b1, b3, k1 D' (by omega), b4]
                    simp
                  · rw [show 7 - d = (6 - d) + 1 by omega]
                    refine wf_alt.mpr ⟨b2, ?_⟩
                    rw [show 6 - d = 7 - (d + 1) by omega]
                    exact k2
              · cases h
    have hO : ∀ d t vs r, t.length ≤ n + 1 → d ≤ 6 → ro d t = .ok (vs, r) → (∀ D, 6 ≤ D + d → t = joinWith 44 (vs.map fun v => showLoose D v) ++ r) ∧ (∀ v ∈ vs, wf (6 - d) v) ∧ vs ≠ [] := by
      intro d t vs r hl hd h
      rw [ro_eq] at h
      obtain ⟨a, h1, h⟩ := bind_ok h
      obtain ⟨k1, k2⟩ := hL (d + 1) t a.1 a.2 hl (by omega) h1
      rw [show 7 - (d + 1) = 6 - d by omega] at k2
      split at h
      · rename_i w e
        obtain ⟨x, h2, h3⟩ := map_ok h
        obtain ⟨e1, e2⟩ := Prod.mk.inj h3
        subst e1 e2
        have l1 := (lens _).1 _ _ a.1 a.2 h1
        rw [e] at l1
        simp only [List.length_cons] at l1
        obtain ⟨m1, m2, m3⟩ := iO d w x.1 x.2 (by omega) hd h2
        refine ⟨fun D hD => ?_, fun v hv => ?_, by simp⟩
        · rw [List.map_cons, join_cons _ _ _ (by simpa using m3)]
          conv => lhs; rw [k1 D (by omega), e, m1 D hD]
          simp
        · rcases List.mem_cons.mp hv with rfl | hv
          · exact k2
          · exact m2 v hv
      · obtain ⟨e1, e2⟩ := Prod.mk.inj (Except.ok.inj h)
        subst e1 e2
        refine ⟨fun D hD => ?_, fun v hv => ?_, by simp⟩
        · rw [List.map_cons, List.map_nil, join_one]
          exact k1 D (by omega)
        · have : v = a.1 := by simpa using hv
          rw [this]
          exact k2
    refine ⟨hL, fun d b t fs r hl hd h => ?_, hO⟩
    rw [rf_eq] at h
    obtain ⟨a, h1, h⟩ := bind_ok h
    obtain ⟨b1, b2, _⟩ := readName_ok (t := t) (s := a.1) (r := a.2) h1
    have l1 := readName_len (t := t) (s := a.1) (r := a.2) h1
    split at h
    · cases h
    · rename_i hb
      have hb' : a.1 ∉ b := fun z => hb (List.elem_eq_true_of_mem z)
      obtain ⟨w, h2, h⟩ := bind_ok h
      have b3 := expect_ok h2
      have l2 := expect_len h2
      obtain ⟨o, h3, h⟩ := bind_ok h
      obtain ⟨m1, m2, m3⟩ := iO d w o.1 o.2 (by omega) hd h3
      have l3 := (lens _).2.2 _ _ o.1 o.2 h3
      split at h
      · rename_i y e
        obtain ⟨x, h4, h5⟩ := map_ok h
        obtain ⟨e1, e2⟩ := Prod.mk.inj h5
        subst e1 e2
        rw [e] at l3
        simp only [List.length_cons] at l3
        obtain ⟨k1, k2⟩ := iF d (a.1 :: b) y x.1 x.2 (by omega) hd h4
        refine ⟨fun D hD => ?_, ?_, fun z hz => ?_, fun z hz => ?_, by simp⟩
        · rw [List.map_cons, join_cons _ _ _ (by simpa using k2.ne)]
          conv => lhs; rw [b1, b3, m1 D hD, e, k1 D hD]
          unfold showF
          simp
        · rw [List.map_cons, List.nodup_cons]
          refine ⟨fun z => ?_, k2.nd⟩
          obtain ⟨q, hq, e1⟩ := List.mem_map.mp z
          exact k2.out q hq (by rw [e1]; exact List.mem_cons_self ..)
        · rcases List.mem_cons.mp hz with rfl | hz
          · exact hb'
          · exact fun q => k2.out z hz (List.mem_cons_of_mem _ q)
        · rcases List.mem_cons.mp hz with rfl | hz
          · exact ⟨b2, m3, m2⟩
          · exact k2.ok z hz
      · rename_i y e
        obtain ⟨e1, e2⟩ := Prod.mk.inj (Except.ok.inj h)
        subst e1 e2
        refine ⟨fun D hD => ?_, ?_, fun z hz => ?_, fun z hz => ?_, by simp⟩
        · rw [List.map_cons, List.map_nil, join_one]
          conv => lhs; rw [b1, b3, m1 D hD, e]
          unfold showF
          simp
        · simp
        · have : z = (a.1, o.1) := by simpa using hz
          rw [this]
          exact hb'
        · have : z = (a.1, o.1) := by simpa using hz
          rw [this]
          exact ⟨b2, m3, m2⟩
      · cases h
/-- behind what is read stands a rest of the text -/
theorem suffix_at {t p r : Text} (e : t = p ++ r) : r = t.drop (t.length - r.length) ∧ t.length - r.length ≤ t.length := by
  refine ⟨?_, by omega⟩
  rw [e, List.length_append, show p.length + r.length - r.length = p.length by omega, List.drop_left]
/-- a row's text, read: it is written so -/
theorem readRow_ok {t : Text} {v : Loose} (h : readRow t = .ok v) : showRow v = t ∧ wf 6 v ∧ t.length ≤ MOST ∧ ∃ fs, v = .record fs := by
  unfold readRow at h
  split at h
  · cases h
  · rename_i hl
    split at h
    · cases h
    · rename_i hh
      rw [rl_is (by omega)] at h
      obtain ⟨a, h1, h⟩ := bind_ok h
      obtain ⟨k1, k2⟩ := (backs t.length).1 1 t a.1 a.2 (Nat.le_refl _) (by omega) h1
      dsimp only at h
      split at h
      · rename_i e
        have e1 := Except.ok.inj h
        subst e1
        refine ⟨?_, k2, by omega, ?_⟩
        · unfold showRow
          have := k1 8 (by omega)
          rw [e, List.append_nil] at this
          exact this.symm
        · cases t with
          | nil => rw [rl_nil] at h1; cases h1
          | cons c r =>
            have hc : c = 123 := by
              have : ¬ (some c ≠ some 123) := hh
              simpa using this
            rw [rl_cons, hc] at h1
            rw [if_neg (by decide), if_neg (by decide), if_pos rfl, if_neg (by decide)] at h1
            split at h1
            · exact ⟨_, (Prod.mk.inj (Except.ok.inj h1)).1.symm⟩
            · obtain ⟨x, _, h3⟩ := map_ok h1
              exact ⟨_, (Prod.mk.inj h3).1.symm⟩
      · cases h
end SF
end -- P3

section -- W0
set_option Elab.async false
set_option linter.all false
set_option maxRecDepth 100000
set_option maxHeartbeats 2000000
/-! # W0: the text by places, what the top has written, short words for calls -/
namespace SF
open PySem PySem.Spec PyProof.Rows L2

/-! ### the text -/
def topS (i : Nat) : Stmt := PySem.Challenge.pw_schemafinder_s01_answers.main.body.getD i (.Pass ⟨0, 0, 0, 0⟩)
/-- one def: where it stands (a global's name; a class and its method), its name, its qualified name, its statement -/
structure DefT where
  at_ : Str × Option Str
  name : Str
  qual : Str
  st : Stmt
abbrev s_Fault_init : Stmt := inClass (topS 20) 0
abbrev s_is_digit : Stmt := topS 21
abbrev s_is_letter : Stmt := topS 22
abbrev s_is_name_sign : Stmt := topS 23
abbrev s_is_name : Stmt := topS 24
abbrev s_is_plain : Stmt := topS 25
abbrev s_sixteenth : Stmt := topS 26
abbrev s_told_byte : Stmt := topS 27
abbrev s_bytes_in : Stmt := topS 28
abbrev s_number_told : Stmt := topS 29
abbrev s_R_init : Stmt := inClass (topS 30) 0
abbrev s_R_sign : Stmt := inClass (topS 30) 1
abbrev s_R_stands : Stmt := inClass (topS 30) 2
abbrev s_R_take : Stmt := inClass (topS 30) 3
abbrev s_R_run : Stmt := inClass (topS 30) 4
abbrev s_R_name : Stmt := inClass (topS 30) 5
abbrev s_R_value : Stmt := inClass (topS 30) 6
abbrev s_R_take_number : Stmt := inClass (topS 30) 7
abbrev s_R_string : Stmt := inClass (topS 30) 8
abbrev s_R_occurrences : Stmt := inClass (topS 30) 9
abbrev s_R_field : Stmt := inClass (topS 30) 10
abbrev s_R_record : Stmt := inClass (topS 30) 11
abbrev s_R_choice : Stmt := inClass (topS 30) 12
abbrev s_row_read : Stmt := topS 31
abbrev s_Clash_init : Stmt := inClass (topS 39) 0
abbrev s_bytes_of : Stmt := topS 40
abbrev s_by_names : Stmt := topS 41
abbrev s_rows_of_names : Stmt := topS 42
abbrev s_names_before : Stmt := topS 43
abbrev s_order_of : Stmt := topS 44
abbrev s_ask_together : Stmt := topS 45
abbrev s_ask_under : Stmt := topS 46
abbrev s_bits_for : Stmt := topS 47
abbrev s_number_kind : Stmt := topS 48
abbrev s_mode_of : Stmt := topS 49
abbrev s_K_init : Stmt := inClass (topS 50) 0
abbrev s_K_fields_text : Stmt := inClass (topS 50) 1
abbrev s_schema_of : Stmt := topS 51
abbrev s_is_open : Stmt := topS 52
abbrev s_path_told : Stmt := topS 53
abbrev s_H_init : Stmt := inClass (topS 61) 0
abbrev s_H_has : Stmt := inClass (topS 61) 1
abbrev s_H_check : Stmt := inClass (topS 61) 2
abbrev s_H_clash_with : Stmt := inClass (topS 61) 3
abbrev s_H_add : Stmt := inClass (topS 61) 4
abbrev s_H_why : Stmt := inClass (topS 61) 5
abbrev s_H_row : Stmt := inClass (topS 61) 6
abbrev s_H_schema : Stmt := inClass (topS 61) 7
abbrev s_H_alike : Stmt := inClass (topS 61) 8
abbrev s_H_drop : Stmt := inClass (topS 61) 9
abbrev s_H_is_needed : Stmt := inClass (topS 61) 10
abbrev s_H_needed : Stmt := inClass (topS 61) 11
abbrev s_asked_of_text : Stmt := topS 65
abbrev s_answered : Stmt := topS 66
abbrev s_answers : Stmt := topS 67
def defsA : List DefT := [
  ⟨("Fault", some "__init__"), "__init__", "Fault.__init__", s_Fault_init⟩,
  ⟨("is_digit", none), "is_digit", "is_digit", s_is_digit⟩,
  ⟨("is_letter", none), "is_letter", "is_letter", s_is_letter⟩,
  ⟨("is_name_sign", none), "is_name_sign", "is_name_sign", s_is_name_sign⟩,
  ⟨("is_name", none), "is_name", "is_name", s_is_name⟩,
  ⟨("is_plain", none), "is_plain", "is_plain", s_is_plain⟩,
  ⟨("sixteenth", none), "sixteenth", "sixteenth", s_sixteenth⟩,
  ⟨("told_byte", none), "told_byte", "told_byte", s_told_byte⟩,
  ⟨("bytes_in", none), "bytes_in", "bytes_in", s_bytes_in⟩,
  ⟨("number_told", none), "number_told", "number_told", s_number_told⟩,
  ⟨("Reader", some "__init__"), "__init__", "Reader.__init__", s_R_init⟩,
  ⟨("Reader", some "sign"), "sign", "Reader.sign", s_R_sign⟩,
  ⟨("Reader", some "stands"), "stands", "Reader.stands", s_R_stands⟩,
  ⟨("Reader", some "take"), "take", "Reader.take", s_R_take⟩,
  ⟨("Reader", some "run"), "run", "Reader.run", s_R_run⟩,
  ⟨("Reader", some "name"), "name", "Reader.name", s_R_name⟩,
  ⟨("Reader", some "value"), "value", "Reader.value", s_R_value⟩,
  ⟨("Reader", some "take_number"), "take_number", "Reader.take_number", s_R_take_number⟩,
  ⟨("Reader", some "string"), "string", "Reader.string", s_R_string⟩,
  ⟨("Reader", some "occurrences"), "occurrences", "Reader.occurrences", s_R_occurrences⟩,
  ⟨("Reader", some "field"), "field", "Reader.field", s_R_field⟩,
  ⟨("Reader", some "record"), "record", "Reader.record", s_R_record⟩,
  ⟨("Reader", some "choice"), "choice", "Reader.choice", s_R_choice⟩,
  ⟨("row_read", none), "row_read", "row_read", s_row_read⟩]
def defsB : List DefT := [
  ⟨("Clash", some "__init__"), "__init__", "Clash.__init__", s_Clash_init⟩,
  ⟨("bytes_of", none), "bytes_of", "bytes_of", s_bytes_of⟩,
  ⟨("by_names", none), "by_names", "by_names", s_by_names⟩,
  ⟨("rows_of_names", none), "rows_of_names", "rows_of_names", s_rows_of_names⟩,
  ⟨("names_before", none), "names_before", "names_before", s_names_before⟩,
  ⟨("order_of", none), "order_of", "order_of", s_order_of⟩,
  ⟨("ask_together", none), "ask_together", "ask_together", s_ask_together⟩,
  ⟨("ask_under", none), "ask_under", "ask_under", s_ask_under⟩,
  ⟨("bits_for", none), "bits_for", "bits_for", s_bits_for⟩,
  ⟨("number_kind", none), "number_kind", "number_kind", s_number_kind⟩,
  ⟨("mode_of", none), "mode_of", "mode_of", s_mode_of⟩,
  ⟨("Kind", some "__init__"), "__init__", "Kind.__init__", s_K_init⟩,
  ⟨("Kind", some "fields_text"), "fields_text", "Kind.fields_text", s_K_fields_text⟩,
  ⟨("schema_of", none), "schema_of", "schema_of", s_schema_of⟩,
  ⟨("is_open", none), "is_open", "is_open", s_is_open⟩,
  ⟨("path_told", none), "path_told", "path_told", s_path_told⟩]
def defsC : List DefT := [
  ⟨("Rows", some "__init__"), "__init__", "Rows.__init__", s_H_init⟩,
  ⟨("Rows", some "has"), "has", "Rows.has", s_H_has⟩,
  ⟨("Rows", some "check"), "check", "Rows.check", s_H_check⟩,
  ⟨("Rows", some "clash_with"), "clash_with", "Rows.clash_with", s_H_clash_with⟩,
  ⟨("Rows", some "add"), "add", "Rows.add", s_H_add⟩,
  ⟨("Rows", some "why"), "why", "Rows.why", s_H_why⟩,
  ⟨("Rows", some "row"), "row", "Rows.row", s_H_row⟩,
  ⟨("Rows", some "schema"), "schema", "Rows.schema", s_H_schema⟩,
  ⟨("Rows", some "alike"), "alike", "Rows.alike", s_H_alike⟩,
  ⟨("Rows", some "drop"), "drop", "Rows.drop", s_H_drop⟩,
  ⟨("Rows", some "is_needed"), "is_needed", "Rows.is_needed", s_H_is_needed⟩,
  ⟨("Rows", some "needed"), "needed", "Rows.needed", s_H_needed⟩,
  ⟨("asked_of_text", none), "asked_of_text", "asked_of_text", s_asked_of_text⟩,
  ⟨("answered", none), "answered", "answered", s_answered⟩,
  ⟨("answers", none), "answers", "answers", s_answers⟩]
/-- the globals that are defs or classes -/
def gNames : List Str := ["Fault", "is_digit", "is_letter", "is_name_sign", "is_name", "is_plain", "sixteenth", "told_byte", "bytes_in", "number_told", "Reader", "row_read", "Clash", "bytes_of", "by_names", "rows_of_names", "names_before", "order_of", "ask_together", "ask_under", "bits_for", "number_kind", "mode_of", "Kind", "schema_of", "is_open", "path_told", "Rows", "asked_of_text", "answered", "answers"]
/-- the built-ins that are named -/
def fNames : List Str := ["len", "ord", "tuple", "sorted", "set", "enumerate", "min", "max", "str", "sum", "dict", "list", "zip", "int", "range", "ValueError"]
def iNames : List (Str × Int) := [("NUMBER", 0), ("TEXT", 1), ("RECORD", 2), ("CHOICE", 3), ("MOST_TEXT", 4000), ("MOST_BYTES", 999), ("MOST_DEEP", 6), ("MOST_NAME", 12), ("MOST_DIGITS", 19), ("LEAST", -9223372036854775808), ("MOST", 9223372036854775807), ("WRONG", 1), ("TWICE", 2), ("BEYOND", 3), ("TOO_DEEP", 4), ("TOO_LONG_reading", 5), ("QUOTE", 34), ("TURNED", 92), ("MINUS", 45),
  ("UNLIKE", 1), ("NO_ORDER", 2), ("TOO_MANY", 3), ("TOO_LONG_schemas", 4), ("MOST_LEAVES", 40), ("MOST_SCHEMA", 2000), ("MOST_ROWS", 100), ("FAULTY", -1), ("NO_ROW", -3), ("FULL", -5), ("NO_ROWS", -7), ("CLASHES", -10)]
def aNames : List (Str × Str) := [("Reader", "text"), ("Reader", "at"), ("Kind", "leaves"), ("Kind", "text"), ("Rows", "texts"), ("Rows", "records"), ("Fault", "kind"), ("Fault", "place"), ("Clash", "number"), ("Clash", "path")]
def mNames : List (Str × Str) := [("Reader", "sign"), ("Reader", "stands"), ("Reader", "take"), ("Reader", "run"), ("Reader", "name"), ("Reader", "value"), ("Reader", "take_number"), ("Reader", "string"), ("Reader", "occurrences"), ("Reader", "field"), ("Reader", "record"), ("Reader", "choice"), ("Kind", "fields_text"),
  ("Rows", "has"), ("Rows", "check"), ("Rows", "clash_with"), ("Rows", "add"), ("Rows", "why"), ("Rows", "row"), ("Rows", "schema"), ("Rows", "alike"), ("Rows", "drop"), ("Rows", "is_needed"), ("Rows", "needed")]
/-- what the top has written -/
structure Txt (K : PySem.W.Frag) (mg : Str → Option Value) : Prop where
  glo : ∀ x ∈ gNames, mg x = some (.ref (He.ga K x))
  free : ∀ x ∈ fNames, mg x = none
  int : ∀ p ∈ iNames, ∃ t, mg p.1 = some (.int p.2 t)
  cls : ∀ x ∈ (["Reader", "Kind", "Rows"] : List Str), Cls K (He.ga K x) ∧ Mk K (He.ga K x) (He.ma K (He.ga K x) "__init__")
  noat : ∀ p ∈ aNames, NoAttr K (He.ga K p.1) p.2
  meth : ∀ p ∈ mNames, Meth K (He.ga K p.1) p.2 (He.ma K (He.ga K p.1) p.2)
  exc : ∀ x ∈ (["Fault", "Clash"] : List Str), OexC K (He.ga K x) ∧ XfC K (He.ga K x) ∧ PySem.W.findIn K (.ref (He.ga K x)) "__init__" = some (some (.ref (He.ma K (He.ga K x) "__init__"))) ∧
    PySem.W.typeIn K (.ref (He.ma K (He.ga K x) "__init__")) = some (.type "function") ∧ PySem.W.exmOne K (.ref (He.ga K x)) (.ref (He.ga K x)) = some true
  defs : ∀ d ∈ defsA ++ (defsB ++ defsC), ∃ fd, Fun K d.name d.qual d.st (He.fAd K d.at_) fd
  nums : ∃ a, mg "NUMBERS" = some (.ref a) ∧ ∀ H : Hp, SqT K H a ([0, 0, 0, 0, 1, 0, 0, 1, 0].map V.int)
  lists : ∃ a, mg "LISTS" = some (.ref a) ∧ ∀ H : Hp, SqT K H a ([1, 1, 1, 0, 0, 0, 1, 0, 0].map V.int)

/-! ### a def that keeps its promise, with all that its callers ask -/
structure DefOk (P : Program) (w : World) (K : PySem.W.Frag) (mg : Str → Option Value) (base : Heap) (CX : CXT) (k : Nat) (f : Addr) (ps : List Str) (sp : Sp) : Prop where
  ex : ∃ fd, FnOk P w K mg base CX k f fd ps sp ∧ Binds K fd ps [] ∧ PySem.W.keepIn K (.ref f) = true
theorem DefOk.mono {P : Program} {w : World} {K : PySem.W.Frag} {mg : Str → Option Value} {base : Heap} {CX : CXT} {j k : Nat} {f : Addr} {ps : List Str} {sp : Sp} (F : DefOk P w K mg base CX j f ps sp) (h : j ≤ k) : DefOk P w K mg base CX k f ps sp := by
  obtain ⟨fd, a, b, c⟩ := F.ex
  exact ⟨fd, a.mono h, b, c⟩
theorem DefOk.imp {P : Program} {w : World} {K : PySem.W.Frag} {mg : Str → Option Value} {base : Heap} {CX : CXT} {k : Nat} {f : Addr} {ps : List Str} {sp sp' : Sp} (F : DefOk P w K mg base CX k f ps sp) (h : ∀ vs H Q E, sp' vs H Q E → sp vs H Q E) : DefOk P w K mg base CX k f ps sp' := by
  obtain ⟨fd, a, b, c⟩ := F.ex
  exact ⟨fd, a.imp h, b, c⟩
section
variable {X : Cx} {CX : CXT} {k : Nat} {f C : Addr} {ps : List Str} {sp : Sp} {E : XK} {x m : Str} {p pos apos : Pos} {e o : Expr} {es : List Expr} {ta : TE} {t : TA}
theorem pcall (D : DefOk X.prog X.w X.K X.mg X.base CX k f ps sp) (hr : Room k X.A) (hm : X.mg x = some (.ref f)) (hx : Passes CX X E) (ha : PA X (e :: es) t) (hg : Gl X x := by rfl) (hdb : (x == ("__debug__" : Str)) = false := by decide)
    (he : starEach (e :: es) X.env = (false, eval e X.env) :: starEach es X.env := by rfl) (hpl : (backTo pos (starEach es X.env)).any (·.1) = false := by rfl) : PE X (.Call (.Name x p) (e :: es) [] pos) (tCall sp [] E t) := by
  obtain ⟨fd, F, hb, hk⟩ := D.ex
  exact pe_call F hr hg hm hk hb .nil hx ha hdb he hpl
theorem pmeth {pl : Sem Bool} (D : DefOk X.prog X.w X.K X.mg X.base CX k f ps sp) (he : PE X o ta) (c : Cls X.K C) (hm : Meth X.K C m f) (hr : Room k X.A) (hx : Passes CX X E) (ha : PA X (e :: es) t)
    (hst : starEach (e :: es) X.env = (false, eval e X.env) :: starEach es X.env := by rfl) (hpl : (backTo pos (starEach es X.env)).any (·.1) = false := by rfl)
    (ht : eval (.Call (.Attribute o m apos) (e :: es) [] pos) X.env = (do
      let ov ← eval o X.env
      standAt apos.atName
      let (f, first) ← holding [ov] (getMethod ov m pl)
      callWith pos f first (backTo pos (starEach (e :: es) X.env)) (backToKw pos (keywordEach [] X.env))) := by rfl) :
    PE X (.Call (.Attribute o m apos) (e :: es) [] pos) (tMeth C m sp [] E ta t) := by
  obtain ⟨fd, F, hb, hk⟩ := D.ex
  exact pe_meth he c hm F hr hb .nil hx ha hst hpl ht
theorem pmeth0 {pl : Sem Bool} (D : DefOk X.prog X.w X.K X.mg X.base CX k f ps sp) (he : PE X o ta) (c : Cls X.K C) (hm : Meth X.K C m f) (hr : Room k X.A) (hx : Passes CX X E)
    (ht : eval (.Call (.Attribute o m apos) [] [] pos) X.env = (do
      let ov ← eval o X.env
      standAt apos.atName
      let (f, first) ← holding [ov] (getMethod ov m pl)
      callWith pos f first (backTo pos (starEach [] X.env)) (backToKw pos (keywordEach [] X.env))) := by rfl) :
    PE X (.Call (.Attribute o m apos) [] [] pos) (tMeth C m sp [] E ta tNil) := by
  obtain ⟨fd, F, hb, hk⟩ := D.ex
  exact pe_meth0 he c hm F hr hb .nil hx ht
/-- a module's whole number -/
theorem pgi {i : Int} (hm : ∃ t, X.mg x = some (.int i t)) (hg : Gl X x := by rfl) (hd : (x == ("__debug__" : Str)) = false := by decide) : PE X (.Name x pos) (tC (.int i)) := by
  obtain ⟨t, h⟩ := hm
  exact pe_glob hg h ⟨t, rfl⟩ hd
/-- a module's object -/
theorem pgr {a : Addr} (hm : X.mg x = some (.ref a)) (hg : Gl X x := by rfl) (hd : (x == ("__debug__" : Str)) = false := by decide) : PE X (.Name x pos) (tC (.ref a)) := pe_glob hg hm rfl hd
end
/-- what a def's raising wish is, within its own body -/
theorem passX {CX' : CXT} {P : Program} {w : World} {K : PySem.W.Frag} {mg : Str → Option Value} {base : Heap} {N : List Str} {qual : Str} {scope : Scope} {f : Addr} {cd : Value} {A : Around} {outer : List Env} {s : Shared} {H : Hp} {E : XK} :
    Passes (L2.CX P w) (cxOf (L2.CX P w) P w K mg base N qual scope f cd A outer s H E) E :=
  passes_call (takes_of rfl rfl rfl rfl) fun _ _ _ _ h => h
end SF
end -- W0

section -- F1
set_option Elab.async false
set_option linter.all false
set_option maxRecDepth 100000
set_option maxHeartbeats 2000000
/-! # F1: signs, told bytes, what stands between a text's signs, what digits are worth -/
namespace SF
open PySem PySem.Spec PyProof.Rows L2
/-! ### short words -/
theorem ifb {c : Bool} {A B : Prop} (h1 : c = true → A) (h2 : c = false → B) : if c = true then A else B := by
  cases c
  · rw [if_neg (by decide)]
    exact h2 rfl
  · rw [if_pos rfl]
    exact h1 rfl
theorem ifT {c : Bool} {A B : Prop} (hc : c = true) (h : A) : if c = true then A else B := by
  rw [if_pos hc]
  exact h
theorem ifF {c : Bool} {A B : Prop} (hc : c = false) (h : B) : if c = true then A else B := by
  rw [hc, if_neg (by decide)]
  exact h
theorem qb {Q : VK} {H : Hp} {b c : Bool} (h : Q (.bl b) H) (e : b = c) : Q (.bl c) H := e ▸ h
theorem qi {Q : VK} {H : Hp} {b c : Int} (h : Q (.int b) H) (e : b = c) : Q (.int c) H := e ▸ h
theorem dib (a b : Int) : decide (a = b) = (a == b) := by by_cases h : a = b <;> simp [h]
/-- a text's bytes as whole numbers, as a list's items -/
abbrev iT (t : List Nat) : List Int := t.map Int.ofNat
abbrev vT (t : List Nat) : List V := t.map fun n => V.int (Int.ofNat n)
theorem vT_at {t : List Nat} {i : Nat} {c : Nat} (h : t[i]? = some c) : (vT t)[i]? = some (V.int c) := by
  rw [List.getElem?_map, h]
  rfl
variable {P : Program} {w : World} {K : PySem.W.Frag} {mg : Str → Option Value} {base : Heap}
/-- defs of one, two, three parameters: how their arguments bind -/
theorem bind1 {x qual : Str} {st : Stmt} {f : Addr} {fd : FuncData} {p : Str} (F : Fun K x qual st f fd) (h : ∀ (kV doc pm : Value) (an : Option Addr) (cdv ct : Value) (u : Value), bindArgs (PySem.W.fnOf x qual (defArgs st) (defBody st) (defScope st) .none kV doc pm an cdv ct) ⟨[u], []⟩ = pure [(p, u)]) : Binds K fd [p] [] :=
  F.binds fun kV doc pm an cdv ct us hl => match us, hl with | [u], _ => h kV doc pm an cdv ct u
theorem bind2 {x qual : Str} {st : Stmt} {f : Addr} {fd : FuncData} {p q : Str} (F : Fun K x qual st f fd) (h : ∀ (kV doc pm : Value) (an : Option Addr) (cdv ct : Value) (u v : Value), bindArgs (PySem.W.fnOf x qual (defArgs st) (defBody st) (defScope st) .none kV doc pm an cdv ct) ⟨[u, v], []⟩ = pure [(p, u), (q, v)]) : Binds K fd [p, q] [] :=
  F.binds fun kV doc pm an cdv ct us hl => match us, hl with | [u, v], _ => h kV doc pm an cdv ct u v
theorem bind3 {x qual : Str} {st : Stmt} {f : Addr} {fd : FuncData} {p q r : Str} (F : Fun K x qual st f fd) (h : ∀ (kV doc pm : Value) (an : Option Addr) (cdv ct : Value) (u v z : Value), bindArgs (PySem.W.fnOf x qual (defArgs st) (defBody st) (defScope st) .none kV doc pm an cdv ct) ⟨[u, v, z], []⟩ = pure [(p, u), (q, v), (r, z)]) : Binds K fd [p, q, r] [] :=
  F.binds fun kV doc pm an cdv ct us hl => match us, hl with | [u, v, z], _ => h kV doc pm an cdv ct u v z
/-! ### signs -/
def isDig (b : Int) : Bool := decide (48 ≤ b) && decide (b ≤ 57)
def isLet (b : Int) : Bool := decide (97 ≤ b) && decide (b ≤ 122)
def isNam (b : Int) : Bool := isLet b || (isDig b || decide (b = 95))
def isPla (b : Int) : Bool := decide (32 ≤ b) && (decide (b ≤ 126) && (!decide (b = 34) && !decide (b = 92)))
def spByte (g : Int → Bool) : Sp := fun vs H Q _ => ∃ b : Int, vs = [.int b] ∧ Q (.bl (g b)) H
theorem spByte_len {g : Int → Bool} (vs : List V) (H : Hp) (Q : VK) (E : XK) (h : spByte g vs H Q E) : vs.length = (["byte"] : List Str).length := by
  obtain ⟨b, rfl, _⟩ := h
  rfl
theorem dT {K : PySem.W.Frag} {mg : Str → Option Value} (T : Txt K mg) (l : List DefT) (hl : l = defsA ∨ l = defsB ∨ l = defsC) (i : Nat) {d : DefT} (h : l[i]? = some d) : ∃ fd, Fun K d.name d.qual d.st (He.fAd K d.at_) fd := by
  refine T.defs d ?_
  have m := List.mem_of_getElem? h
  rcases hl with e | e | e <;> rw [e] at m
  · exact List.mem_append_left _ m
  · exact List.mem_append_right _ (List.mem_append_left _ m)
  · exact List.mem_append_right _ (List.mem_append_right _ m)
theorem sc_is_digit : FnScope ["byte"] ["byte"] (defScope s_is_digit) := ⟨rfl, rfl, rfl, by decide +kernel, rfl, by decide +kernel, by decide +kernel⟩
theorem ok_is_digit (T : Txt K mg) : DefOk P w K mg base CX0 1 (He.ga K "is_digit") ["byte"] (spByte isDig) := by
  obtain ⟨fd, F⟩ := dT T defsA (.inl rfl) 1 rfl
  refine ⟨fd, ?_, bind1 F fun _ _ _ _ _ _ _ => rfl, F.kp⟩
  refine F.ok sc_is_digit spByte_len (fun cdv A outer s H vs Q E hr h => ⟨_, pss_one (ps_ret (pe_and (pe_cmpR op_le pe_int (pv 0) (nomark _)) (pe_one (pe_cmpR op_le (pv 0) pe_int (nomark _))))), ?_⟩)
  obtain ⟨b, rfl, q⟩ := h
  refine ⟨_, rfl, _, _, rfl, rfl, _, rfl, ifb (fun c => ?_) fun c => ?_⟩
  · exact ⟨_, rfl, _, _, rfl, rfl, qb q (by unfold isDig; rw [c] <;> rfl)⟩
  · exact qb q (by unfold isDig; rw [c] <;> rfl)
theorem sc_is_letter : FnScope ["byte"] ["byte"] (defScope s_is_letter) := ⟨rfl, rfl, rfl, by decide +kernel, rfl, by decide +kernel, by decide +kernel⟩
theorem ok_is_letter (T : Txt K mg) : DefOk P w K mg base CX0 1 (He.ga K "is_letter") ["byte"] (spByte isLet) := by
  obtain ⟨fd, F⟩ := dT T defsA (.inl rfl) 2 rfl
  refine ⟨fd, ?_, bind1 F fun _ _ _ _ _ _ _ => rfl, F.kp⟩
  refine F.ok sc_is_letter spByte_len (fun cdv A outer s H vs Q E hr h => ⟨_, pss_one (ps_ret (pe_and (pe_cmpR op_le pe_int (pv 0) (nomark _)) (pe_one (pe_cmpR op_le (pv 0) pe_int (nomark _))))), ?_⟩)
  obtain ⟨b, rfl, q⟩ := h
  refine ⟨_, rfl, _, _, rfl, rfl, _, rfl, ifb (fun c => ?_) fun c => ?_⟩
  · exact ⟨_, rfl, _, _, rfl, rfl, qb q (by unfold isLet; rw [c] <;> rfl)⟩
  · exact qb q (by unfold isLet; rw [c] <;> rfl)
theorem sc_is_name_sign : FnScope ["byte"] ["byte"] (defScope s_is_name_sign) := ⟨rfl, rfl, rfl, by decide +kernel, rfl, by decide +kernel, by decide +kernel⟩
theorem ok_is_name_sign (T : Txt K mg) : DefOk P w K mg base CX0 2 (He.ga K "is_name_sign") ["byte"] (spByte isNam) := by
  obtain ⟨fd, F⟩ := dT T defsA (.inl rfl) 3 rfl
  refine ⟨fd, ?_, bind1 F fun _ _ _ _ _ _ _ => rfl, F.kp⟩
  refine F.ok sc_is_name_sign spByte_len (fun cdv A outer s H vs Q E hr h => ⟨_, pss_one (ps_ret (pe_or (pcall (ok_is_letter T) hr (T.glo _ (by decide +kernel)) pass0 (pa_cons (pv 0) pa_nil))
    (pe_or (pcall (ok_is_digit T) hr (T.glo _ (by decide +kernel)) pass0 (pa_cons (pv 0) pa_nil)) (pe_one (pe_cmpR op_eq (pv 0) pe_int (nomark _)))))), ?_⟩)
  obtain ⟨b, rfl, q⟩ := h
  refine ⟨_, rfl, _, rfl, _, rfl, ifb (fun c => ?_) fun c => ?_⟩
  · exact qb q (by unfold isNam; rw [c] <;> rfl)
  · refine ⟨_, rfl, _, rfl, _, rfl, ifb (fun c2 => ?_) fun c2 => ?_⟩
    · exact qb q (by unfold isNam; rw [c, c2] <;> rfl)
    · refine ⟨_, rfl, rfl, qb q ?_⟩
      unfold isNam
      rw [c, c2, dec_int, ← dib]
      rfl
theorem sc_is_plain : FnScope ["byte"] ["byte"] (defScope s_is_plain) := ⟨rfl, rfl, rfl, by decide +kernel, rfl, by decide +kernel, by decide +kernel⟩
theorem ok_is_plain (T : Txt K mg) : DefOk P w K mg base CX0 1 (He.ga K "is_plain") ["byte"] (spByte isPla) := by
  obtain ⟨fd, F⟩ := dT T defsA (.inl rfl) 5 rfl
  refine ⟨fd, ?_, bind1 F fun _ _ _ _ _ _ _ => rfl, F.kp⟩
  refine F.ok sc_is_plain spByte_len (fun cdv A outer s H vs Q E hr h => ⟨_, pss_one (ps_ret (pe_and (pe_cmpR op_le pe_int (pv 0) (nomark _)) (pe_and (pe_cmpR op_le (pv 0) pe_int (nomark _))
    (pe_and (pe_cmpR op_ne (pv 0) (pgi (T.int ("QUOTE", 34) (by decide +kernel))) (nomark _)) (pe_one (pe_cmpR op_ne (pv 0) (pgi (T.int ("TURNED", 92) (by decide +kernel))) (nomark _))))))), ?_⟩)
  obtain ⟨b, rfl, q⟩ := h
  refine ⟨_, rfl, _, _, rfl, rfl, _, rfl, ifb (fun c => ?_) fun c => ?_⟩
  · refine ⟨_, rfl, _, _, rfl, rfl, _, rfl, ifb (fun c2 => ?_) fun c2 => ?_⟩
    · refine ⟨_, rfl, rfl, _, rfl, ifb (fun c3 => ?_) fun c3 => ?_⟩
      · refine ⟨_, rfl, rfl, qb q ?_⟩
        unfold isPla
        rw [c, c2]
        rw [dec_int] at c3 ⊢
        have : decide (b = 34) = (b == 34) := by by_cases h : b = 34 <;> simp [h]
        rw [this, c3]
        have : decide (b = 92) = (b == 92) := by by_cases h : b = 92 <;> simp [h]
        rw [this]
        rfl
      · refine qb q ?_
        unfold isPla
        rw [c, c2]
        rw [dec_int] at c3
        have : decide (b = 34) = (b == 34) := by by_cases h : b = 34 <;> simp [h]
        rw [this, c3]
        rfl
    · exact qb q (by unfold isPla; rw [c, c2] <;> rfl)
  · exact qb q (by unfold isPla; rw [c] <;> rfl)
/-! ### is_name -/
def isName (t : List Nat) : Bool := decide (1 ≤ t.length) && (decide (t.length ≤ 12) && (match t with | [] => false | c :: _ => isLet c))
def spIsName (K : PySem.W.Frag) : Sp := fun vs H Q _ => ∃ (a : Addr) (t : List Nat), vs = [.ref a] ∧ SqL K H a (vT t) ∧ Q (.bl (isName t)) H
theorem sc_is_name : FnScope ["run"] ["run"] (defScope s_is_name) := ⟨rfl, rfl, rfl, by decide +kernel, rfl, by decide +kernel, by decide +kernel⟩
theorem ok_is_name (T : Txt K mg) : DefOk P w K mg base CX0 2 (He.ga K "is_name") ["run"] (spIsName K) := by
  obtain ⟨fd, F⟩ := dT T defsA (.inl rfl) 4 rfl
  refine ⟨fd, ?_, bind1 F fun _ _ _ _ _ _ _ => rfl, F.kp⟩
  have mlen := T.free "len" (by decide +kernel)
  refine F.ok sc_is_name (fun vs H Q E h => by obtain ⟨a, t, rfl, _⟩ := h; rfl) (fun cdv A outer s H vs Q E hr h => ⟨_, pss_one (ps_ret (pe_and (pe_cmpR op_le pe_int (pe_callB call_len_seq rfl mlen PySem.boot_len (pa_cons (pv 0) pa_nil)) (nomark _))
    (pe_and (pe_cmpR op_le (pe_callB call_len_seq rfl mlen PySem.boot_len (pa_cons (pv 0) pa_nil)) (pgi (T.int ("MOST_NAME", 12) (by decide +kernel))) (nomark _))
    (pe_one (pcall (ok_is_letter T) hr (T.glo _ (by decide +kernel)) pass0 (pa_cons (pe_ix ix_list (pv 0) pe_int (fun _ _ => rfl)) pa_nil)))))), ?_⟩)
  obtain ⟨a, t, rfl, hS, q⟩ := h
  have el : ((vT t).length : Int) = t.length := by rw [List.length_map]
  refine ⟨_, rfl, a, _, rfl, .inl hS, _, _, rfl, rfl, _, rfl, ifb (fun c => ?_) fun c => ?_⟩
  · refine ⟨_, rfl, a, _, rfl, .inl hS, _, _, rfl, rfl, _, rfl, ifb (fun c2 => ?_) fun c2 => ?_⟩
    · cases t with
      | nil => simp at c
      | cons x r =>
        refine ⟨_, rfl, a, _, 0, .int x, rfl, rfl, hS, atI_nat (j := 0) rfl, _, rfl, qb q ?_⟩
        unfold isName
        rw [el] at c c2
        have c' : decide (1 ≤ (x :: r).length) = true := by simp
        have c2' : decide ((x :: r).length ≤ 12) = true := by
          have := of_decide_eq_true c2
          exact decide_eq_true (by omega)
        rw [c', c2']
        rfl
    · refine qb q ?_
      unfold isName
      rw [el] at c c2
      have c2' : decide (t.length ≤ 12) = false := by
        have := of_decide_eq_false c2
        exact decide_eq_false (by omega)
      rw [c2']
      simp
  · refine qb q ?_
    unfold isName
    rw [el] at c
    have c' : decide (1 ≤ t.length) = false := by
      have := of_decide_eq_false c
      exact decide_eq_false (by omega)
    rw [c']
    rfl
end SF
end -- F1

section -- F2
set_option Elab.async false
set_option linter.all false
set_option maxRecDepth 100000
set_option maxHeartbeats 2000000
namespace SF
open PySem PySem.Spec PyProof.Rows L2
variable {P : Program} {w : World} {K : PySem.W.Frag} {mg : Str → Option Value} {base : Heap}
/-! ### sixteenth, told_byte -/
def six (b : Int) : Int := if isDig b = true then b - 48 else if decide (97 ≤ b) && decide (b ≤ 102) then b - 87 else -1
def spSix : Sp := fun vs H Q _ => ∃ b : Int, vs = [.int b] ∧ Q (.int (six b)) H
theorem sc_sixteenth : FnScope ["byte"] ["byte"] (defScope s_sixteenth) := ⟨rfl, rfl, rfl, by decide +kernel, rfl, by decide +kernel, by decide +kernel⟩
theorem ok_sixteenth (T : Txt K mg) : DefOk P w K mg base CX0 2 (He.ga K "sixteenth") ["byte"] spSix := by
  obtain ⟨fd, F⟩ := dT T defsA (.inl rfl) 6 rfl
  refine ⟨fd, ?_, bind1 F fun _ _ _ _ _ _ _ => rfl, F.kp⟩
  refine F.ok sc_sixteenth (fun vs H Q E h => by obtain ⟨a, rfl, _⟩ := h; rfl) (fun cdv A outer s H vs Q E hr h => ⟨_,
    pss_cons (ps_if (pt_val (pcall (ok_is_digit T) hr (T.glo _ (by decide +kernel)) pass0 (pa_cons (pv 0) pa_nil))) (pss_one (ps_ret (pe_op op_sub (pv 0) pe_int))) pss_nil)
    (pss_cons (ps_if (PW.pt (pw_and (pt_cmpR op_le pe_int (pv 0) (nomark _)) (pw_and1 (pt_cmpR op_le (pv 0) pe_int (nomark _))))) (pss_one (ps_ret (pe_op op_sub (pv 0) pe_int))) pss_nil)
    (pss_one (ps_ret (pe_un un_neg pe_int)))), ?_⟩)
  obtain ⟨b, rfl, q⟩ := h
  refine ⟨_, rfl, _, rfl, _, rfl, ifb (fun c => ?_) fun c => ?_⟩
  · exact ⟨_, rfl, _, _, rfl, rfl, qi q (by unfold six; rw [if_pos c])⟩
  · have c' : ¬ isDig b = true := by rw [c]; decide
    refine ⟨_, rfl, _, _, rfl, rfl, _, rfl, ifb (fun c2 => ?_) fun c2 => ?_⟩
    · refine ⟨_, rfl, _, _, rfl, rfl, _, rfl, ifb (fun c3 => ?_) fun c3 => ?_⟩
      · exact ⟨_, rfl, _, _, rfl, rfl, qi q (by unfold six; rw [if_neg c', c2, c3] <;> rfl)⟩
      · exact ⟨_, rfl, qi q (by unfold six; rw [if_neg c', c2, c3] <;> rfl)⟩
    · refine ifF rfl ?_
      exact ⟨_, rfl, qi q (by unfold six; rw [if_neg c', c2] <;> rfl)⟩
def toldB : List Nat → Int
  | a :: b :: _ => if six a < 0 then -1 else if six b < 0 then -1 else 16 * six a + six b
  | _ => -1
theorem toldB_two (a b : Nat) (r : List Nat) : toldB (a :: b :: r) = if six a < 0 then -1 else if six b < 0 then -1 else 16 * six a + six b := rfl
theorem toldB_short : ∀ {t : List Nat}, t.length < 2 → toldB t < 0
  | [], _ => by decide
  | [_], _ => by show (-1 : Int) < 0; decide
  | _ :: _ :: _, h => by simp only [List.length_cons] at h; omega
def spTold (K : PySem.W.Frag) : Sp := fun vs H Q _ => ∃ (a : Addr) (t : List Nat), vs = [.ref a] ∧ SqL K H a (vT t) ∧ Q (.int (toldB t)) H
theorem six_le (b : Int) : six b ≤ 15 ∧ -1 ≤ six b := by
  unfold six isDig
  split
  · rename_i h
    simp only [Bool.and_eq_true, decide_eq_true_eq] at h
    omega
  · split
    · rename_i h
      simp only [Bool.and_eq_true, decide_eq_true_eq] at h
      omega
    · omega
theorem sc_told_byte : FnScope ["row"] ["row"] (defScope s_told_byte) := ⟨rfl, rfl, rfl, by decide +kernel, rfl, by decide +kernel, by decide +kernel⟩
theorem ok_told_byte (T : Txt K mg) : DefOk P w K mg base CX0 3 (He.ga K "told_byte") ["row"] (spTold K) := by
  obtain ⟨fd, F⟩ := dT T defsA (.inl rfl) 7 rfl
  refine ⟨fd, ?_, bind1 F fun _ _ _ _ _ _ _ => rfl, F.kp⟩
  have mlen := T.free "len" (by decide +kernel)
  have m6 := T.glo "sixteenth" (by decide +kernel)
  refine F.ok sc_told_byte (fun vs H Q E h => by obtain ⟨a, t, rfl, _⟩ := h; rfl) (fun cdv A outer s H vs Q E hr h => ⟨_,
    pss_cons (ps_if (PW.pt (pw_or (pt_cmpR op_lt (pe_callB call_len_seq rfl mlen PySem.boot_len (pa_cons (pv 0) pa_nil)) pe_int (nomark _))
      (pw_or (pt_cmpR op_lt (pcall (ok_sixteenth T) hr m6 pass0 (pa_cons (pe_ix ix_list (pv 0) pe_int (fun _ _ => rfl)) pa_nil)) pe_int (nomark _))
      (pw_or1 (pt_cmpR op_lt (pcall (ok_sixteenth T) hr m6 pass0 (pa_cons (pe_ix ix_list (pv 0) pe_int (fun _ _ => rfl)) pa_nil)) pe_int (nomark _))))))
      (pss_one (ps_ret (pe_un un_neg pe_int))) pss_nil)
    (pss_one (ps_ret (pe_op op_add (pe_op op_mul pe_int (pcall (ok_sixteenth T) hr m6 pass0 (pa_cons (pe_ix ix_list (pv 0) pe_int (fun _ _ => rfl)) pa_nil))) (pcall (ok_sixteenth T) hr m6 pass0 (pa_cons (pe_ix ix_list (pv 0) pe_int (fun _ _ => rfl)) pa_nil))))), ?_⟩)
  obtain ⟨a, t, rfl, hS, q⟩ := h
  refine ⟨_, rfl, a, _, rfl, .inl hS, _, _, rfl, rfl, _, rfl, ifb (fun c => ?_) fun c => ?_⟩
  · refine ifT rfl ⟨_, rfl, qi q ?_⟩
    rw [List.length_map] at c
    have c' := of_decide_eq_true c
    match t with
    | [] => rfl
    | [_] => rfl
    | _ :: _ :: _ => simp only [List.length_cons] at c'; omega
  · rw [List.length_map] at c
    have c' := of_decide_eq_false c
    match t, hS, q, c' with
    | [], hS, q, c' => simp at c'
    | [_], hS, q, c' => simp at c'
    | x :: y :: r, hS, q, c' =>
      have hb := six_le (x : Int)
      refine ⟨_, rfl, a, _, 0, .int x, rfl, rfl, hS, atI_nat (j := 0) rfl, _, rfl, _, _, rfl, rfl, _, rfl, ifb (fun c2 => ?_) fun c2 => ?_⟩
      · refine ifT rfl ⟨_, rfl, qi q ?_⟩
        rw [toldB_two, if_pos (of_decide_eq_true c2)]
      · refine ⟨_, rfl, a, _, 1, .int y, rfl, rfl, hS, atI_nat (j := 1) rfl, _, rfl, _, _, rfl, rfl, _, rfl, ifb (fun c3 => ?_) fun c3 => ?_⟩
        · refine ⟨_, rfl, qi q ?_⟩
          rw [toldB_two, if_neg (of_decide_eq_false c2), if_pos (of_decide_eq_true c3)]
        · refine ⟨_, rfl, a, _, 0, .int x, rfl, rfl, hS, atI_nat (j := 0) rfl, _, rfl, _, _, rfl, rfl, .inl ⟨by decide, by decide⟩, ?_⟩
          refine ⟨_, rfl, a, _, 1, .int y, rfl, rfl, hS, atI_nat (j := 1) rfl, _, rfl, _, _, rfl, rfl, qi q ?_⟩
          rw [toldB_two, if_neg (of_decide_eq_false c2), if_neg (of_decide_eq_false c3)]
/-! ### bytes_in -/
/-- how many bytes are told, if they are -/
def countQ : Nat → List Nat → Option Nat
  | _, [] => some 0
  | 0, _ :: _ => none
  | n + 1, c :: r => if isPla c = true then (countQ n r).map (· + 1) else if (c : Int) = 92 then (if toldB (r.take 2) < 0 ∨ isPla (toldB (r.take 2)) = true then none else (countQ n (r.drop 2)).map (· + 1)) else none
def bytesIn (t : List Nat) : Int := match countQ t.length t with
  | some n => n
  | none => -1
theorem countQ_more : ∀ (n m : Nat) (t : List Nat), t.length ≤ n → t.length ≤ m → countQ n t = countQ m t
  | 0, 0, [], _, _ => rfl
  | _, _, [], _, _ => by unfold countQ; rfl
  | 0, _, _ :: _, h, _ => by simp at h
  | _, 0, _ :: _, _, h => by simp at h
  | n + 1, m + 1, c :: r, h1, h2 => by
    unfold countQ
    have a1 : r.length ≤ n := by simpa using h1
    have a2 : r.length ≤ m := by simpa using h2
    rw [countQ_more n m r a1 a2, countQ_more n m (r.drop 2) (by rw [List.length_drop]; omega) (by rw [List.length_drop]; omega)]
def cq (t : List Nat) : Option Nat := countQ t.length t
theorem cq_nil : cq [] = some 0 := rfl
theorem cq_cons (c : Nat) (r : List Nat) : cq (c :: r) = if isPla c = true then (cq r).map (· + 1) else if (c : Int) = 92 then (if toldB (r.take 2) < 0 ∨ isPla (toldB (r.take 2)) = true then none else (cq (r.drop 2)).map (· + 1)) else none := by
  show countQ (r.length + 1) (c :: r) = _
  rw [countQ, countQ_more r.length (r.drop 2).length (r.drop 2) (by rw [List.length_drop]; omega) (Nat.le_refl _)]
  rfl
def spBytesIn (K : PySem.W.Frag) : Sp := fun vs H Q _ => ∃ (a : Addr) (t : List Nat), vs = [.ref a] ∧ SqL K H a (vT t) ∧ t.length ≤ 5000 ∧ ∀ H', Same H H' → Q (.int (bytesIn t)) H'
theorem sIx_in {n k : Nat} (h : k ≤ n) : HT.sIx n 0 (some (k : Int)) = k := by
  rw [HT.sIx_nat]
  omega
theorem cut_vT (t : List Nat) (i j : Nat) : cutV (vT t) (some (i : Int)) (some (j : Int)) = vT ((t.drop i).take (j - i)) := by
  unfold cutV
  rw [HT.sIx_nat, HT.sIx_nat, List.length_map]
  rw [← List.map_drop, ← List.map_take]
  congr 1
  rcases Nat.le_total t.length i with h | h
  · rw [List.drop_eq_nil_of_le (by omega), List.drop_eq_nil_of_le h]
    simp
  · have e1 : min i t.length = i := by omega
    rw [e1]
    rcases Nat.le_total t.length j with h2 | h2
    · have e2 : min j t.length = t.length := by omega
      rw [e2, List.take_of_length_le (by rw [List.length_drop]; omega), List.take_of_length_le (by rw [List.length_drop]; omega)]
    · have e2 : min j t.length = j := by omega
      rw [e2]
theorem sc_bytes_in : FnScope ["row", "found", "at", "byte"] ["row"] (defScope s_bytes_in) := ⟨rfl, rfl, rfl, by decide +kernel, rfl, by decide +kernel, by decide +kernel⟩
theorem ok_bytes_in (T : Txt K mg) : DefOk P w K mg base CX0 4 (He.ga K "bytes_in") ["row"] (spBytesIn K) := by
  obtain ⟨fd, F⟩ := dT T defsA (.inl rfl) 8 rfl
  refine ⟨fd, ?_, bind1 F fun _ _ _ _ _ _ _ => rfl, F.kp⟩
  have mlen := T.free "len" (by decide +kernel)
  have mP := T.glo "is_plain" (by decide +kernel)
  have nd := sc_bytes_in.nd
  refine F.ok sc_bytes_in (fun vs H Q E h => by obtain ⟨a, t, rfl, _⟩ := h; rfl) (fun cdv A outer s H vs Q E hr h => ⟨_,
    pss_cons (ps_set (i := 1) nd rfl (.inl rfl) pe_int)
    (pss_cons (ps_set (i := 2) nd rfl (.inl rfl) pe_int)
    (pss_cons (ps_while PassesOwn.never (pt_cmpR op_lt (pv 2) (pe_callB call_len_seq rfl mlen PySem.boot_len (pa_cons (pv 0) pa_nil)) (nomark _))
      (pss_cons (ps_if (pt_val (pcall ((ok_is_plain T).mono (by decide)) hr mP pass0 (pa_cons (pe_ix ix_list (pv 0) (pv 2) (fun _ _ => rfl)) pa_nil)))
          (pss_one (ps_aug (i := 2) nd rfl (.inl rfl) pe_int ip_add))
          (pss_one (ps_if (pt_cmpR op_ne (pe_ix ix_list (pv 0) (pv 2) (fun _ _ => rfl)) (pgi (T.int ("TURNED", 92) (by decide +kernel))) (nomark _))
            (pss_one (ps_ret (pe_un un_neg pe_int)))
            (pss_cons (ps_set (i := 3) nd rfl (.inl rfl) (pcall (ok_told_byte T) hr (T.glo "told_byte" (by decide +kernel)) pass0 (pa_cons (pe_slice sl_list (pv 0) (po_some (pe_op op_add (pv 2) pe_int)) (po_some (pe_op op_add (pv 2) pe_int))) pa_nil)))
            (pss_cons (ps_if (PW.pt (pw_or (pt_cmpR op_lt (pv 3) pe_int (nomark _)) (pw_or1 (pt_val (pcall ((ok_is_plain T).mono (by decide)) hr mP pass0 (pa_cons (pv 3) pa_nil))))))
                (pss_one (ps_ret (pe_un un_neg pe_int))) pss_nil)
            (pss_one (ps_aug (i := 2) nd rfl (.inl rfl) pe_int ip_add)))))))
      (pss_one (ps_aug (i := 1) nd rfl (.inl rfl) pe_int ip_add))))
    (pss_one (ps_ret (pv 1))))), ?_⟩)
  obtain ⟨a, t, rfl, hS, hl, q⟩ := h
  have el : ((vT t).length : Int) = t.length := by rw [List.length_map]
  -- behind so many signs: what is found and what the rest tells are what the whole tells
  refine ⟨fun m σ H' => ∃ (i n : Nat) (b : Option V), m = t.length - i ∧ σ = [some (.ref a), some (.int n), some (.int i), b] ∧ i ≤ t.length ∧ Same H H' ∧ cq t = (cq (t.drop i)).map (· + n),
    ⟨_, 0, 0, none, rfl, rfl, Nat.zero_le _, Same.refl _, by simp⟩, ?_⟩
  rintro m σ H' ⟨i, n, b, rfl, rfl, hi, s5, hc⟩
  have hS' := s5.seq hS
  have fin : ∀ H2, Same H H2 → cq t = none → Q (.int (-1)) H2 := fun H2 s2 e => qi (q H2 s2) (by
    unfold bytesIn
    show (match cq t with | some n => (n : Int) | none => -1) = _
    rw [e])
  refine ⟨_, rfl, _, rfl, a, _, rfl, .inl hS', _, _, rfl, rfl, _, rfl, ifb (fun c => ?_) fun c => ?_⟩
  · rw [el] at c
    have hlt : i < t.length := by have := of_decide_eq_true c; omega
    obtain ⟨x, hx⟩ : ∃ x, t[i]? = some x := ⟨t[i], by simp [hlt]⟩
    have hd : t.drop i = x :: t.drop (i + 1) := by
      rw [List.drop_eq_getElem_cons hlt]
      congr 1
      rw [List.getElem?_eq_getElem hlt] at hx
      exact Option.some.inj hx
    rw [hd, cq_cons] at hc
    refine ⟨fun σ' H2 => ∃ m', m' < t.length - i ∧ ∃ (i n : Nat) (b : Option V), m' = t.length - i ∧ σ' = [some (.ref a), some (.int n), some (.int i), b] ∧ i ≤ t.length ∧ Same H H2 ∧ cq t = (cq (t.drop i)).map (· + n), fun _ _ z => z, ?_⟩
    refine ⟨_, rfl, _, rfl, a, _, i, _, rfl, rfl, hS', atI_nat (vT_at hx), _, rfl, _, rfl, ifb (fun c2 => ?_) fun c2 => ?_⟩
    · rw [if_pos c2] at hc
      refine ⟨_, rfl, _, _, rfl, rfl, ?_⟩
      refine ⟨_, rfl, _, _, rfl, rfl, _, ?_, i + 1, n + 1, b, rfl, rfl, by omega, s5, ?_⟩
      · omega
      · rw [hc]
        cases cq (t.drop (i + 1)) with
        | none => rfl
        | some m => simp; omega
    · have c2' : ¬ isPla (x : Int) = true := by rw [c2]; decide
      rw [if_neg c2'] at hc
      refine ⟨_, rfl, _, rfl, a, _, i, _, rfl, rfl, hS', atI_nat (vT_at hx), rfl, _, rfl, ifb (fun c3 => ?_) fun c3 => ?_⟩
      · have c3' : ¬ (x : Int) = 92 := by
          rw [dec_int, ← dib] at c3
          simpa using c3
        rw [if_neg c3'] at hc
        exact ⟨_, rfl, fin H' s5 hc⟩
      · have c3' : (x : Int) = 92 := by
          rw [dec_int, ← dib] at c3
          simpa using c3
        rw [if_pos c3'] at hc
        refine ⟨_, rfl, _, rfl, _, _, rfl, rfl, _, rfl, _, rfl, _, _, rfl, rfl, _, rfl, a, _, rfl, hS', fun p np => ?_⟩
        have ec : cutV (vT t) (some ((i : Int) + 1)) (some ((i : Int) + 3)) = vT ((t.drop (i + 1)).take 2) := by
          have := cut_vT t (i + 1) (i + 3)
          rw [show ((i + 1 : Nat) : Int) = (i : Int) + 1 by omega, show ((i + 3 : Nat) : Int) = (i : Int) + 3 by omega] at this
          rw [this, show i + 3 - (i + 1) = 2 by omega]
        rw [ec]
        have s6 : Same H (upd H' p (.lst (vT ((t.drop (i + 1)).take 2)))) := fun b o e => by
          rw [upd_ne (ne_of_none (s5 b o e) np)]
          exact s5 b o e
        refine ⟨p, _, rfl, .inl (.inl upd_same), ?_⟩
        refine ⟨_, rfl, _, _, rfl, rfl, _, rfl, ifb (fun c4 => ?_) fun c4 => ?_⟩
        · refine ifT rfl ⟨_, rfl, fin _ s6 ?_⟩
          rw [hc, if_pos (.inl (of_decide_eq_true c4))]
          rfl
        · refine ⟨_, rfl, _, rfl, _, rfl, ifb (fun c5 => ?_) fun c5 => ?_⟩
          · refine ⟨_, rfl, fin _ s6 ?_⟩
            rw [hc, if_pos (.inr c5)]
            rfl
          · have c6 : ¬ (toldB ((t.drop (i + 1)).take 2) < 0 ∨ isPla (toldB ((t.drop (i + 1)).take 2)) = true) := fun z => by
              rcases z with z | z
              · exact of_decide_eq_false c4 z
              · rw [c5] at z
                cases z
            rw [if_neg c6, List.drop_drop] at hc
            have h2 : i + 3 ≤ t.length := by
              have c7 : ¬ toldB ((t.drop (i + 1)).take 2) < 0 := fun z => c6 (.inl z)
              rcases Nat.lt_or_ge t.length (i + 3) with z | z
              · exfalso
                apply c7
                exact toldB_short (by
                  rw [List.length_take, List.length_drop]
                  omega)
              · exact z
            refine ⟨_, rfl, _, _, rfl, rfl, ?_⟩
            refine ⟨_, rfl, _, _, rfl, rfl, _, ?_, i + 3, n + 1, _, rfl, rfl, h2, s6, ?_⟩
            · omega
            · rw [hc, show i + 1 + 2 = i + 3 by omega]
              cases cq (t.drop (i + 3)) with
              | none => rfl
              | some m => simp; omega
  · rw [el] at c
    have hge : i = t.length := by have := of_decide_eq_false c; omega
    refine ⟨_, rfl, qi (q H' s5) ?_⟩
    unfold bytesIn
    show (match cq t with | some n => (n : Int) | none => -1) = _
    rw [hc, hge, List.drop_length, cq_nil]
    simp
/-! ### number_told -/
def numT (t : List Nat) : Int := t.foldl (fun (n : Int) (c : Nat) => 10 * n + (c : Int) - 48) 0
def spNumT (K : PySem.W.Frag) : Sp := fun vs H Q _ => ∃ (a : Addr) (t : List Nat), vs = [.ref a] ∧ SqL K H a (vT t) ∧ Q (.int (numT t)) H
theorem sc_number_told : FnScope ["run", "found", "byte"] ["run"] (defScope s_number_told) := ⟨rfl, rfl, rfl, by decide +kernel, rfl, by decide +kernel, by decide +kernel⟩
theorem take_more {α : Type} : ∀ {l : List α} {i : Nat} {x : α}, l[i]? = some x → l.take (i + 1) = l.take i ++ [x]
  | [], i, x, h => by simp at h
  | a :: l, 0, x, h => by
    have e : a = x := Option.some.inj h
    subst e
    rfl
  | a :: l, i + 1, x, h => by
    have ih := take_more (l := l) (i := i) (x := x) h
    show a :: l.take (i + 1) = a :: l.take i ++ [x]
    rw [ih]
    rfl
theorem ok_number_told (T : Txt K mg) : DefOk P w K mg base CX0 1 (He.ga K "number_told") ["run"] (spNumT K) := by
  obtain ⟨fd, F⟩ := dT T defsA (.inl rfl) 9 rfl
  refine ⟨fd, ?_, bind1 F fun _ _ _ _ _ _ _ => rfl, F.kp⟩
  have nd := sc_number_told.nd
  refine F.ok sc_number_told (fun vs H Q E h => by obtain ⟨a, t, rfl, _⟩ := h; rfl) (fun cdv A outer s H vs Q E hr h => ⟨_,
    pss_cons (ps_set (i := 1) nd rfl (.inl rfl) pe_int)
    (pss_cons (ps_for PassesOwn.never rfl (pi_list (pv 0)) (pg_name (i := 2) nd rfl (.inl rfl))
      (pss_one (ps_set (i := 1) nd rfl (.inl rfl) (pe_op op_sub (pe_op op_add (pe_op op_mul pe_int (pv 1)) (pv 2)) pe_int))))
    (pss_one (ps_ret (pv 1)))), ?_⟩)
  obtain ⟨a, t, rfl, hS, q⟩ := h
  refine ⟨_, rfl, a, rfl, ⟨_, hS⟩, for_list (K := K) (a := a) (xs := vT t) (fun i σ H' => ∃ b : Option V, H' = H ∧ σ = [some (.ref a), some (.int (numT (t.take i))), b])
    ⟨none, rfl, rfl⟩ (fun i σ H' _ ⟨_, e, _⟩ => by rw [e]; exact hS) ?_ ?_⟩
  · rintro i y σ H' hi ⟨b, rfl, rfl⟩
    rw [List.getElem?_map] at hi
    cases e : t[i]? with
    | none => rw [e] at hi; cases hi
    | some z =>
      rw [e] at hi
      cases hi
      refine ⟨_, rfl, _, _, rfl, rfl, .inl ⟨by decide, by decide⟩, _, rfl, _, _, rfl, rfl, _, _, rfl, rfl, some (.int z), rfl, ?_⟩
      rw [take_more e]
      unfold numT
      rw [List.foldl_append]
      rfl
  · rintro σ H' ⟨b, rfl, rfl⟩
    refine ⟨_, rfl, qi q ?_⟩
    rw [List.length_map, List.take_length]
end SF
end -- F2

section -- W2
set_option Elab.async false
set_option linter.all false
set_option maxRecDepth 100000
set_option maxHeartbeats 2000000
/-! # W2: own errors of two fields, made and raised; what a reader's heap is; tables of code objects -/
namespace SF
open PySem PySem.Spec PyProof.Rows L2
/-! ### readings may be strengthened -/
def upA (ta : TA) : TA := fun σ H Q => ∃ Q0, ta σ H Q0 ∧ ∀ vs H', Q0 vs H' → Q vs H'
theorem pa_up {X : Cx} {es : List Expr} {ta : TA} (h : PA X es ta) : PA X es (upA ta) := by
  refine ⟨fun pos pins s σ H Q I ⟨Q0, h0, k⟩ => ?_⟩
  exact thn (h.run pos pins s σ H Q0 I h0) fun us s1 ⟨vs, H1, I1, r, q⟩ => ⟨vs, H1, I1, r, k vs H1 q⟩
def upE (te : TE) : TE := fun σ H Q => ∃ Q0, te σ H Q0 ∧ ∀ v H', Q0 v H' → Q v H'
theorem pe_up {X : Cx} {e : Expr} {te : TE} (h : PE X e te) : PE X e (upE te) := by
  refine ⟨fun pins s σ H Q I ⟨Q0, h0, k⟩ => ?_⟩
  exact thn (h.run pins s σ H Q0 I h0) fun u s1 ⟨v, H1, I1, r, q⟩ => ⟨v, H1, I1, r, k v H1 q⟩
theorem pe_imp {X : Cx} {e : Expr} {te te' : TE} (h : PE X e te) (k : ∀ σ H Q, te' σ H Q → te σ H Q) : PE X e te' := ⟨fun pins s σ H Q I h' => h.run pins s σ H Q I (k σ H Q h')⟩
theorem ps_imp {X : Cx} {st : Stmt} {t t' : TS} (h : PS X st t) (k : ∀ D σ H, t' D σ H → t D σ H) : PS X st t' := ⟨fun pins s σ H D I h' => h.run pins s σ H D I (k D σ H h')⟩
/-- the ways through a statement joined: N holds behind each of them -/
def tJoin (t : TS) : TS := fun D σ H => ∃ N : L2.St → Hp → Prop, t { D with nx := N } σ H ∧ ∀ σ' H', N σ' H' → D.nx σ' H'
theorem ps_join {X : Cx} {st : Stmt} {t : TS} (h : PS X st t) : PS X st (tJoin t) := by
  refine ⟨fun pins s σ H D I ⟨N, h0, k⟩ => ?_⟩
  refine thn (h.run pins s σ H _ I h0) fun f s' q => ?_
  cases f with
  | next =>
    obtain ⟨σ', H', J, n⟩ := q
    exact ⟨σ', H', J, k _ _ n⟩
  | brk => exact q
  | cont => exact q
  | ret u => exact q
/-! ### heaps -/
/-- all tracked stands but the object at p -/
def Chg (p : Addr) (H H' : Hp) : Prop := ∀ b o, H b = some o → b ≠ p → H' b = some o
theorem Same.chg {p : Addr} {H H' : Hp} (h : Same H H') : Chg p H H' := fun b o e _ => h b o e
theorem Chg.trans {p : Addr} {H H1 H2 : Hp} (a : Chg p H H1) (b : Chg p H1 H2) : Chg p H H2 := fun c o e n => b c o (a c o e n) n
theorem same_new {H : Hp} {p : Addr} {o : HO} (h : H p = none) : Same H (upd H p o) := fun b u e => by
  rw [upd_ne (ne_of_none e h)]
  exact e
theorem chg_upd {H : Hp} {p : Addr} {o : HO} : Chg p H (upd H p o) := fun b u e n => by
  rw [upd_ne n]
  exact e
theorem Same.fresh {H H' : Hp} (e : Same H H') {p : Addr} (h : H' p = none) : H p = none := by
  cases q : H p with
  | none => rfl
  | some o =>
    rw [e p o q] at h
    cases h
theorem seq_ne {K : PySem.W.Frag} {H H' : Hp} {a p : Addr} {xs : List V} (hS : SqL K H a xs) (k : ∀ b o, H b = some o → b ≠ p → H' b = some o) (hp : ∀ o u, H p ≠ some (.lst o) ∧ H p ≠ some (.frz u (.lst o))) : SqL K H' a xs := by
  rcases hS with (h | ⟨o, h⟩) | h
  · refine .inl (.inl (k a _ h ?_))
    intro z
    rw [z] at h
    exact (hp xs default).1 h
  · refine .inl (.inr ⟨o, k a _ h ?_⟩)
    intro z
    rw [z] at h
    exact (hp xs o).2 h
  · exact .inr h
/-! ### an own error of two fields: f then g -/
/-- what its __init__ keeps -/
def spErr (C : Addr) (f g : Str) : Sp := fun vs H Q _ => ∃ (a : Addr) (x y : V), vs = [.ref a, x, y] ∧ H a = some (exo a C none) ∧
  ∀ d, H d = none → d ≠ a → Q .non (upd (upd (upd H d (exd d [(f, x)])) a (exo a C (some d))) d (exd d [(g, y), (f, x)]))
/-- its fields, as they lie in its dict -/
abbrev errO (f g : Str) (x y : V) : HO := .xd [(g, y), (f, x)]
/-- raise C(x, y): the wish at any heap where its dict is new and all else stands -/
def tErr (C : Addr) (f g : Str) (W : WX) (ta : TA) : TS := fun _ σ H => ∃ Q0, ta σ H Q0 ∧ ∀ vs H1, Q0 vs H1 → ∃ x y, vs = [x, y] ∧ ∀ d H', H1 d = none → H' d = some (errO f g x y) → Same H1 H' → W (.ref C) (some d) σ H'
theorem err_made {C : Addr} {f g : Str} {x y : V} {H1 : Hp} {Q : XK} (h : ∀ d H', H1 d = none → H' d = some (errO f g x y) → Same H1 H' → Q (.ref C) (some d) H') :
    ∀ a, H1 a = none → spErr C f g (.ref a :: ([x, y] ++ [])) (upd H1 a (exo a C none))
      (fun v H2 => v = .non ∧ ∃ (d : Addr) (fs : List (Str × V)), H2 a = some (exo a C (some d)) ∧ H2 d = some (exd d fs) ∧ H1 d = none ∧ Q (.ref C) (some d) (upd (del H2 a) d (.xd fs))) (fun _ _ _ => False) := by
  intro a ha
  refine ⟨a, x, y, rfl, upd_same, fun d hd hne => ?_⟩
  have hd1 : H1 d = none := by
    rw [upd_ne hne] at hd
    exact hd
  have hne' : a ≠ d := Ne.symm hne
  refine ⟨rfl, d, _, ?_, upd_same, hd1, h d _ hd1 upd_same fun b o e => ?_⟩
  · rw [upd_ne hne', upd_same]
  · have b1 : b ≠ d := ne_of_none e hd1
    have b2 : b ≠ a := ne_of_none e ha
    rw [upd_ne b1, del_ne b2, upd_ne b1, upd_ne b2, upd_ne b1, upd_ne b2]
    exact e
section
variable {X : Cx} {W : WX} {C fI : Addr} {f g : Str} {k : Nat} {ps : List Str} {x : Str} {e1 e2 : Expr} {ta : TA} {p pos pos2 : Pos}
theorem ps_err (hc : X.calm = true) (tk : Takes X W) (T : OexC X.K C) (iC : PySem.W.findIn X.K (.ref C) "__init__" = some (some (.ref fI))) (tI : PySem.W.typeIn X.K (.ref fI) = some (.type "function"))
    (D : DefOk X.prog X.w X.K X.mg X.base CX0 k fI ps (spErr C f g)) (hr : Room (k + 1) X.A) (hm : X.mg x = some (.ref C)) (ha : PA X [e1, e2] ta) (hg : Gl X x := by rfl)
    (hdb : (x == ("__debug__" : Str)) = false := by decide) (he : starEach [e1, e2] X.env = (false, eval e1 X.env) :: starEach [e2] X.env := by rfl) (hpl : (backTo pos (starEach [e2] X.env)).any (·.1) = false := by rfl) :
    PS X (.Raise (some (.Call (.Name x p) [e1, e2] [] pos)) none pos2) (tErr C f g W ta) := by
  obtain ⟨fd, F, hb, hk⟩ := D.ex
  refine ps_imp (ps_raise hc tk (pmk_oex (CX := CX0) T iC tI F hr hb .nil (fun _ _ _ _ _ _ _ z => z.elim) hg hm (pa_up ha) hdb he hpl)) fun D σ H h => ?_
  obtain ⟨Q0, h0, h1⟩ := h
  refine ⟨Q0, h0, fun vs H1 q => ?_⟩
  obtain ⟨u, v, rfl, h2⟩ := h1 vs H1 q
  exact ⟨(by show 2 ≤ 1000; decide), err_made (Q := fun cls d H' => W cls d σ H') h2⟩
end
variable {P : Program} {w : World} {K : PySem.W.Frag} {mg : Str → Option Value} {base : Heap}
/-! ### the two errors' __init__ -/
theorem sc_Fault_init : FnScope ["self", "kind", "place"] ["self", "kind", "place"] (defScope s_Fault_init) := ⟨rfl, rfl, rfl, by decide +kernel, rfl, by decide +kernel, by decide +kernel⟩
theorem init_body {C : Addr} {f g : Str} {vs : List V} {H : Hp} {Q : VK} {E : XK} {N : List Str} (hN : N.length = 3) (h : spErr C f g vs H Q E) (T : OexC K C) (n1 : PySem.W.findIn K (.ref C) f = some none) (n2 : PySem.W.findIn K (.ref C) g = some none) :
    tSeq (tOst K f (tVar 0) (tVar 1)) (tOst K g (tVar 0) (tVar 2)) { nx := fun _ H' => Q .non H', rt := Q } (start N vs) H := by
  obtain ⟨a, x, y, rfl, ha, q⟩ := h
  match N, hN with
  | [_, _, _], _ =>
    refine ⟨_, rfl, _, rfl, a, C, rfl, T, n1, .inl ⟨ha, fun dx hd hne => ?_⟩⟩
    refine ⟨_, rfl, _, rfl, a, C, rfl, T, n2, .inr ⟨dx, _, upd_same, ?_, (by show 1 ≤ 900; decide), q dx hd hne⟩⟩
    rw [upd_ne hne, upd_same]
theorem ok_Fault_init (T : Txt K mg) : DefOk P w K mg base CX0 1 (He.ma K (He.ga K "Fault") "__init__") ["self", "kind", "place"] (spErr (He.ga K "Fault") "kind" "place") := by
  obtain ⟨fd, F⟩ := dT T defsA (.inl rfl) 0 rfl
  refine ⟨fd, ?_, bind3 F fun _ _ _ _ _ _ _ _ _ => rfl, F.kp⟩
  refine F.ok sc_Fault_init (fun vs H Q E h => by obtain ⟨a, x, y, rfl, _⟩ := h; rfl) (fun cdv A outer s H vs Q E hr h => ⟨_, pss_cons (ps_ost (pv 0) (pv 1)) (pss_one (ps_ost (pv 0) (pv 2))), ?_⟩)
  exact init_body rfl h (T.exc _ (by decide +kernel)).1 (T.noat ("Fault", "kind") (by decide +kernel)) (T.noat ("Fault", "place") (by decide +kernel))
theorem sc_Clash_init : FnScope ["self", "number", "path"] ["self", "number", "path"] (defScope s_Clash_init) := ⟨rfl, rfl, rfl, by decide +kernel, rfl, by decide +kernel, by decide +kernel⟩
theorem ok_Clash_init (T : Txt K mg) : DefOk P w K mg base CX0 1 (He.ma K (He.ga K "Clash") "__init__") ["self", "number", "path"] (spErr (He.ga K "Clash") "number" "path") := by
  obtain ⟨fd, F⟩ := dT T defsB (.inr (.inl rfl)) 0 rfl
  refine ⟨fd, ?_, bind3 F fun _ _ _ _ _ _ _ _ _ => rfl, F.kp⟩
  refine F.ok sc_Clash_init (fun vs H Q E h => by obtain ⟨a, x, y, rfl, _⟩ := h; rfl) (fun cdv A outer s H vs Q E hr h => ⟨_, pss_cons (ps_ost (pv 0) (pv 1)) (pss_one (ps_ost (pv 0) (pv 2))), ?_⟩)
  exact init_body rfl h (T.exc _ (by decide +kernel)).1 (T.noat ("Clash", "number") (by decide +kernel)) (T.noat ("Clash", "path") (by decide +kernel))
/-- raise Fault(..), raise Clash(..) -/
theorem ps_fault {X : Cx} {W : WX} {e1 e2 : Expr} {ta : TA} {p pos pos2 : Pos} (hc : X.calm = true) (tk : Takes X W) (T : Txt X.K X.mg) (hr : Room 2 X.A) (ha : PA X [e1, e2] ta) (hg : Gl X "Fault" := by rfl)
    (he : starEach [e1, e2] X.env = (false, eval e1 X.env) :: starEach [e2] X.env := by rfl) (hpl : (backTo pos (starEach [e2] X.env)).any (·.1) = false := by rfl) :
    PS X (.Raise (some (.Call (.Name "Fault" p) [e1, e2] [] pos)) none pos2) (tErr (He.ga X.K "Fault") "kind" "place" W ta) := by
  obtain ⟨a, _, b, c, _⟩ := T.exc "Fault" (by decide +kernel)
  exact ps_err hc tk a b c (ok_Fault_init T) hr (T.glo _ (by decide +kernel)) ha hg (by decide) he hpl
theorem ps_clash {X : Cx} {W : WX} {e1 e2 : Expr} {ta : TA} {p pos pos2 : Pos} (hc : X.calm = true) (tk : Takes X W) (T : Txt X.K X.mg) (hr : Room 2 X.A) (ha : PA X [e1, e2] ta) (hg : Gl X "Clash" := by rfl)
    (he : starEach [e1, e2] X.env = (false, eval e1 X.env) :: starEach [e2] X.env := by rfl) (hpl : (backTo pos (starEach [e2] X.env)).any (·.1) = false := by rfl) :
    PS X (.Raise (some (.Call (.Name "Clash" p) [e1, e2] [] pos)) none pos2) (tErr (He.ga X.K "Clash") "number" "path" W ta) := by
  obtain ⟨a, _, b, c, _⟩ := T.exc "Clash" (by decide +kernel)
  exact ps_err hc tk a b c (ok_Clash_init T) hr (T.glo _ (by decide +kernel)) ha hg (by decide) he hpl
end SF
end -- W2

section -- F3
set_option Elab.async false
set_option linter.all false
set_option maxRecDepth 100000
set_option maxHeartbeats 2000000
/-! # F3: the reader: made, its sign, stands, take -/
namespace SF
open PySem PySem.Spec PyProof.Rows L2
variable {P : Program} {w : World} {K : PySem.W.Frag} {mg : Str → Option Value} {base : Heap}
abbrev CR (K : PySem.W.Frag) : Addr := He.ga K "Reader"
abbrev CF (K : PySem.W.Frag) : Addr := He.ga K "Fault"
abbrev rF (a : Addr) (i : Nat) : List (Str × V) := [("text", .ref a), ("at", .int (i : Int))]
/-- a reader at p: its text at a, it stands at i -/
structure RdAt (K : PySem.W.Frag) (H : Hp) (p a : Addr) (t : List Nat) (i : Nat) : Prop where
  ins : ∃ dx, H p = some (.ins (CR K) dx (rF a i))
  txt : SqL K H a (vT t)
  le : i ≤ t.length
theorem lk_here {k : Str} {v : V} {r : List (Str × V)} : List.lookup k ((k, v) :: r) = some v := by
  have e : (k == k) = true := beq_self_eq_true k
  simp only [List.lookup, e]
theorem lk_past {k g : Str} {v : V} {r : List (Str × V)} (h : (k == g) = false) : List.lookup k ((g, v) :: r) = List.lookup k r := by
  simp only [List.lookup, h]
theorem put_here {f : Str} {v x : V} {r : List (Str × V)} : putF f v ((f, x) :: r) = (f, v) :: r := if_pos rfl
theorem put_past {f g : Str} {v x : V} {r : List (Str × V)} (h : ¬ g = f) : putF f v ((g, x) :: r) = (g, x) :: putF f v r := if_neg h
theorem rF_text {a : Addr} {i : Nat} : (rF a i).lookup ("text" : Str) = some (.ref a) := lk_here
theorem rF_at {a : Addr} {i : Nat} : (rF a i).lookup ("at" : Str) = some (.int i) := (lk_past (by decide +kernel)).trans lk_here
theorem rF_put {a : Addr} {i j : Nat} {z : Int} (h : z = j) : putF "at" (.int z) (rF a i) = rF a j := by
  rw [h]
  exact (put_past (by decide +kernel)).trans (congrArg _ put_here)
theorem rF_no {a : Addr} {i : Nat} {m : Str} (h1 : (m == ("text" : Str)) = false) (h2 : (m == ("at" : Str)) = false) : (rF a i).lookup m = none := (lk_past h1).trans ((lk_past h2).trans rfl)
/-- the reader's place changed: all else stands -/
theorem RdAt.chg {H H' : Hp} {p a : Addr} {t : List Nat} {i j : Nat} (R : RdAt K H p a t i) (c : Chg p H H') (hi : ∃ dx, H' p = some (.ins (CR K) dx (rF a j))) (hj : j ≤ t.length) : RdAt K H' p a t j := by
  obtain ⟨dx, e⟩ := R.ins
  exact ⟨hi, seq_ne R.txt c fun o u => ⟨(by rw [e]; intro z; cases z), (by rw [e]; intro z; cases z)⟩, hj⟩
theorem RdAt.same {H H' : Hp} {p a : Addr} {t : List Nat} {i : Nat} (R : RdAt K H p a t i) (c : Same H H') : RdAt K H' p a t i := by
  obtain ⟨dx, e⟩ := R.ins
  exact ⟨⟨dx, c _ _ e⟩, c.seq R.txt, R.le⟩
/-- Reader's class and attributes -/
theorem tcl (T : Txt K mg) : Cls K (CR K) := (T.cls _ (by decide +kernel)).1
theorem tnt (T : Txt K mg) : NoAttr K (CR K) "text" := T.noat ("Reader", "text") (by decide +kernel)
theorem tna (T : Txt K mg) : NoAttr K (CR K) "at" := T.noat ("Reader", "at") (by decide +kernel)
/-! ### Reader(text) -/
def spRInit (K : PySem.W.Frag) : Sp := fun vs H Q _ => ∃ (p dx a : Addr), vs = [.ref p, .ref a] ∧ H p = some (.ins (CR K) dx []) ∧ ∀ H', H' p = some (.ins (CR K) dx (rF a 0)) → Chg p H H' → Q .non H'
theorem sc_R_init : FnScope ["self", "text"] ["self", "text"] (defScope s_R_init) := ⟨rfl, rfl, rfl, by decide +kernel, rfl, by decide +kernel, by decide +kernel⟩
theorem ok_R_init (T : Txt K mg) : DefOk P w K mg base CX0 1 (He.ma K (CR K) "__init__") ["self", "text"] (spRInit K) := by
  obtain ⟨fd, F⟩ := dT T defsA (.inl rfl) 10 rfl
  refine ⟨fd, ?_, bind2 F fun _ _ _ _ _ _ _ _ => rfl, F.kp⟩
  refine F.ok sc_R_init (fun vs H Q E h => by obtain ⟨a, x, y, rfl, _⟩ := h; rfl) (fun cdv A outer s H vs Q E hr h => ⟨_, pss_cons (ps_fld (pv 0) (pv 1) rfl) (pss_one (ps_fld (pv 0) pe_int rfl)), ?_⟩)
  obtain ⟨p, dx, a, rfl, hp, q⟩ := h
  refine ⟨_, rfl, _, rfl, p, CR K, dx, _, rfl, hp, tcl T, tnt T, by decide, ?_⟩
  refine ⟨_, rfl, p, CR K, dx, _, rfl, upd_same, tcl T, tna T, (by show 1 < 1000; decide), q _ ?_ fun b o e n => ?_⟩
  · rw [upd_same]
    congr 2
  · rw [upd_ne n, upd_ne n]
    exact e
/-! ### sign -/
def signZ (t : List Nat) (i : Nat) : Int := match t[i]? with
  | some c => c
  | none => -1
def spSign (K : PySem.W.Frag) : Sp := fun vs H Q _ => ∃ (p a : Addr) (t : List Nat) (i : Nat), vs = [.ref p] ∧ RdAt K H p a t i ∧ Q (.int (signZ t i)) H
theorem sc_R_sign : FnScope ["self"] ["self"] (defScope s_R_sign) := ⟨rfl, rfl, rfl, by decide +kernel, rfl, by decide +kernel, by decide +kernel⟩
theorem ok_R_sign (T : Txt K mg) : DefOk P w K mg base CX0 1 (He.ma K (CR K) "sign") ["self"] (spSign K) := by
  obtain ⟨fd, F⟩ := dT T defsA (.inl rfl) 11 rfl
  refine ⟨fd, ?_, bind1 F fun _ _ _ _ _ _ _ => rfl, F.kp⟩
  have mlen := T.free "len" (by decide +kernel)
  refine F.ok sc_R_sign (fun vs H Q E h => by obtain ⟨p, a, t, i, rfl, _⟩ := h; rfl) (fun cdv A outer s H vs Q E hr h => ⟨_,
    pss_cons (ps_if (pt_cmpR op_eq (pe_fld (pv 0) rfl) (pe_callB call_len_seq rfl mlen PySem.boot_len (pa_cons (pe_fld (pv 0) rfl) pa_nil)) (nomark _)) (pss_one (ps_ret (pe_un un_neg pe_int))) pss_nil)
    (pss_one (ps_ret (pe_ix ix_list (pe_fld (pv 0) rfl) (pe_fld (pv 0) rfl) (fun _ _ => rfl)))), ?_⟩)
  obtain ⟨p, a, t, i, rfl, R, q⟩ := h
  obtain ⟨dx, hp⟩ := R.ins
  refine ⟨_, rfl, p, _, dx, _, _, rfl, hp, tcl T, tna T, rF_at, ?_⟩
  refine ⟨_, rfl, p, _, dx, _, _, rfl, hp, tcl T, tnt T, rF_text, a, _, rfl, .inl R.txt, rfl, _, rfl, ifb (fun c => ?_) fun c => ?_⟩
  · refine ⟨_, rfl, qi q ?_⟩
    rw [dec_int, ← dib, List.length_map] at c
    have := of_decide_eq_true c
    unfold signZ
    rw [List.getElem?_eq_none (by omega)]
  · rw [dec_int, ← dib, List.length_map] at c
    have := of_decide_eq_false c
    have hlt : i < t.length := by have := R.le; omega
    refine ⟨_, rfl, p, _, dx, _, _, rfl, hp, tcl T, tnt T, rF_text, ?_⟩
    refine ⟨_, rfl, p, _, dx, _, _, rfl, hp, tcl T, tna T, rF_at, a, _, i, _, rfl, rfl, R.txt, atI_nat (vT_at (List.getElem?_eq_getElem hlt)), qi q ?_⟩
    unfold signZ
    rw [List.getElem?_eq_getElem hlt]
/-! ### stands -/
def spStands (K : PySem.W.Frag) : Sp := fun vs H Q _ => ∃ (p a : Addr) (t : List Nat) (i : Nat) (z : Str) (c : Nat), vs = [.ref p, .str z] ∧ z.length = 1 ∧ z.cps.getD 0 0 = c ∧ RdAt K H p a t i ∧ Q (.bl (decide (signZ t i = c))) H
theorem sc_R_stands : FnScope ["self", "sign"] ["self", "sign"] (defScope s_R_stands) := ⟨rfl, rfl, rfl, by decide +kernel, rfl, by decide +kernel, by decide +kernel⟩
theorem tm (T : Txt K mg) (m : Str) (h : (("Reader" : Str), m) ∈ mNames) : Meth K (CR K) m (He.ma K (CR K) m) := T.meth (("Reader" : Str), m) h
theorem ok_R_stands (T : Txt K mg) : DefOk P w K mg base CX0 2 (He.ma K (CR K) "stands") ["self", "sign"] (spStands K) := by
  obtain ⟨fd, F⟩ := dT T defsA (.inl rfl) 12 rfl
  refine ⟨fd, ?_, bind2 F fun _ _ _ _ _ _ _ _ => rfl, F.kp⟩
  have mord := T.free "ord" (by decide +kernel)
  refine F.ok sc_R_stands (fun vs H Q E h => by obtain ⟨p, a, t, i, z, c, rfl, _⟩ := h; rfl) (fun cdv A outer s H vs Q E hr h => ⟨_,
    pss_one (ps_ret (pe_cmpR op_eq (pmeth0 (ok_R_sign T) (pv 0) (tcl T) (tm T "sign" (by decide +kernel)) hr pass0) (pe_callB call_ord rfl mord (by decide +kernel) (pa_cons (pv 1) pa_nil)) (nomark _))), ?_⟩)
  obtain ⟨p, a, t, i, z, c, rfl, hz, hc, R, q⟩ := h
  obtain ⟨dx, hp⟩ := R.ins
  refine ⟨_, rfl, p, dx, _, rfl, hp, rF_no (by decide +kernel) (by decide +kernel), p, a, t, i, rfl, R, ?_⟩
  refine ⟨_, rfl, z, rfl, hz, rfl, qb q ?_⟩
  rw [dec_int, ← dib, hc]
/-! ### take -/
/-- a fault of the kind k at the place i is raised: the reader's place may have moved, all else stands -/
def Flt (K : PySem.W.Frag) (p : Addr) (k i : Nat) (H : Hp) (E : XK) : Prop := ∀ d H', H d = none → H' d = some (errO "kind" "place" (.int k) (.int i)) → Chg p H H' → E (.ref (CF K)) (some d) H'
theorem Chg.fresh {p : Addr} {H H1 : Hp} (c : Chg p H H1) (hp : ∃ o, H1 p = some o) {d : Addr} (h : H1 d = none) : H d = none := by
  cases e : H d with
  | none => rfl
  | some o =>
    by_cases z : d = p
    · obtain ⟨u, hu⟩ := hp
      rw [z, hu] at h
      cases h
    · rw [c d o e z] at h
      cases h
theorem RdAt.there {H : Hp} {p a : Addr} {t : List Nat} {i : Nat} (R : RdAt K H p a t i) : ∃ o, H p = some o := let ⟨_, e⟩ := R.ins; ⟨_, e⟩
theorem Flt.from {p : Addr} {k i : Nat} {H H1 : Hp} {E : XK} (h : Flt K p k i H E) (c : Chg p H H1) (hp : ∃ o, H1 p = some o) : Flt K p k i H1 E := fun d H' hd e c2 => h d H' (c.fresh hp hd) e (c.trans c2)
def spTake (K : PySem.W.Frag) : Sp := fun vs H Q E => ∃ (p a : Addr) (t : List Nat) (i : Nat) (z : Str) (c : Nat), vs = [.ref p, .str z] ∧ z.length = 1 ∧ z.cps.getD 0 0 = c ∧ RdAt K H p a t i ∧
  (signZ t i = c → i < t.length → ∀ H', RdAt K H' p a t (i + 1) → Chg p H H' → Q .non H') ∧ (¬ signZ t i = c → Flt K p 1 i H E)
theorem signZ_in {t : List Nat} {i : Nat} {c : Nat} (h : signZ t i = c) : i < t.length := by
  unfold signZ at h
  split at h
  · rename_i x e
    exact (List.getElem?_eq_some_iff.mp e).1
  · omega
theorem sc_R_take : FnScope ["self", "sign"] ["self", "sign"] (defScope s_R_take) := ⟨rfl, rfl, rfl, by decide +kernel, rfl, by decide +kernel, by decide +kernel⟩
theorem upd_none {H : Hp} {p d : Addr} {o o' : HO} (h : upd H p o d = none) (hp : H p = some o') : H d = none := by
  by_cases e : d = p
  · rw [e, upd_same] at h
    cases h
  · rw [upd_ne e] at h
    exact h
theorem ok_R_take (T : Txt K mg) : DefOk P w K mg base (L2.CX P w) 4 (He.ma K (CR K) "take") ["self", "sign"] (spTake K) := by
  obtain ⟨fd, F⟩ := dT T defsA (.inl rfl) 13 rfl
  refine ⟨fd, ?_, bind2 F fun _ _ _ _ _ _ _ _ => rfl, F.kp⟩
  refine F.okX sc_R_take (fun vs H Q E h => by obtain ⟨p, a, t, i, z, c, rfl, _⟩ := h; rfl) (fun cdv A outer s H vs Q E hr h => ⟨_,
    pss_cons (ps_if (pt_not (pt_val (pmeth (ok_R_stands T) (pv 0) (tcl T) (tm T "stands" (by decide +kernel)) (hr.mono (by decide)) pass0 (pa_cons (pv 1) pa_nil))))
      (pss_one (ps_fault rfl (takes_of rfl rfl rfl rfl) T (hr.mono (by decide)) (pa_cons (pgi (T.int ("WRONG", 1) (by decide +kernel))) (pa_cons (pe_fld (pv 0) rfl) pa_nil)))) pss_nil)
    (pss_one (ps_fldaug (pv 0) pe_int in_add)), ?_⟩)
  obtain ⟨p, a, t, i, z, c, rfl, hz, hc, R, q1, q2⟩ := h
  obtain ⟨dx, hp⟩ := R.ins
  refine ⟨_, rfl, p, dx, _, rfl, hp, rF_no (by decide +kernel) (by decide +kernel), _, rfl, p, a, t, i, z, c, rfl, hz, hc, R, _, rfl, ifb (fun e => ?_) fun e => ?_⟩
  · have e' : ¬ signZ t i = c := by simpa using e
    refine ⟨fun vs H1 => vs = [.int 1, .int i] ∧ H1 = H, ?_, ?_⟩
    · exact ⟨_, rfl, p, _, dx, _, _, rfl, hp, tcl T, tna T, rF_at, rfl, rfl⟩
    · rintro vs H1 ⟨rfl, rfl⟩
      exact ⟨_, _, rfl, fun d H' hd he s5 => q2 e' d H' hd he (Same.chg s5)⟩
  · have e' : signZ t i = c := by simpa using e
    refine ⟨_, rfl, p, _, dx, _, _, rfl, hp, tcl T, tna T, rF_at, _, _, rfl, rfl, dx, _, hp, (by show 2 < 1000; decide), ?_⟩
    have hlt := signZ_in e'
    refine q1 e' hlt _ (R.chg chg_upd ⟨dx, ?_⟩ (by omega)) chg_upd
    rw [upd_same, rF_put (j := i + 1) (by omega)]
end SF
end -- F3

section -- W3
set_option Elab.async false
set_option linter.all false
set_option maxRecDepth 100000
set_option maxHeartbeats 2000000
/-! # W3: the lambda that string hands to run, and run's own call of what it got -/
namespace SF
open PySem PySem.Spec PyProof.Rows L2
open LamX (CodeO TabS ExtN TabB)
/-- a lambda's object at f, its code object at c -/
def LamO (f c : Addr) (q : Str) (params : Arguments) (body : Expr) (scope : Scope) : HO := .ext fun h => ∃ (pm ctv : Value), h.get? f = some (PySem.W.kla_obj "<lambda>" q params body scope [] pm c ctv)
theorem lamO_at {P : Program} {w : World} {H : Hp} {h : Heap} {f c : Addr} {q : Str} {params : Arguments} {body : Expr} {scope : Scope} (hok : HOk P w H h) (e : H f = some (LamO f c q params body scope)) :
    ∃ (pm ctv : Value), h.get? f = some (PySem.W.kla_obj "<lambda>" q params body scope [] pm c ctv) := (hok f _ e).1
theorem lamO_ne {f c : Addr} {q : Str} {params : Arguments} {body : Expr} {scope : Scope} (ps : Array Value) : LamO f c q params body scope ≠ .tbl ps := fun z => by
  unfold LamO at z
  cases z
section
variable {X : Cx} {pins : List (Addr × Obj)} {σ : L2.St} {H : Hp} {s : Shared}
/-- what a lambda of one parameter must be -/
structure Lam1 (X : Cx) (p : Str) (q : Str) (params : Arguments) (body : Expr) (scope : Scope) (te : TE) : Prop where
  sc : FnScope [p] [p] scope
  bind : ∀ (pm cv ctv u : Value), bindArgs (PySem.W.kla_fn "<lambda>" q params body scope [] pm cv ctv) ⟨[u], []⟩ = pure [(p, u)]
  kinds : scope.names.lookup p = some .local
  body : ∀ (f c : Addr) (A : Around) (outer : List Env) (s : Shared) (H : Hp), PE (cxOf CX0 X.prog X.w X.K X.mg X.base [p] q scope f (.ref c) A outer s H E0) body te
/-- it is called -/
theorem lam_call {p q : Str} {params : Arguments} {body : Expr} {scope : Scope} {te : TE} {f c : Addr} {k : Nat} {v : V} {u : Value} {Q : VK} (L : Lam1 X p q params body scope te) (I : Inv X pins σ H s) (hf : H f = some (LamO f c q params body scope)) (hc : H c = some (CodeO c q))
    (hr : Room (k + 1) X.A) (rv : RelV v u) (h : te (start [p] [v]) H Q) : wpAny (model X.prog X.w) X.A (call (.ref f) [u]) (EP X pins σ Q) X.xe s := by
  obtain ⟨pm, ctv, hof⟩ := lamO_at I.hok hf
  obtain ⟨⟨oc, vs, t, hoc, hdc, hvc⟩, _, _⟩ := I.hok c _ hc
  have rc : codeAny (model X.prog X.w) X.A (.call (.ref f) ⟨[u], []⟩) (L2.CR CX0 X.stack X.prog X.w H s Q E0) s := by
    refine PySem.W.kla_callFunE hr.depth hof rfl L.sc.co L.sc.gen rfl ⟨c, oc, vs, t, rfl, hoc, hdc, hvc⟩ ?_
    rw [L.bind]
    refine wpAny_pure (wpAny_newFunctionEnv_cells L.sc.kind (fun x hx => ?_) fun env he s1 x => ?_)
    · have e : x = (p, u) := by simpa using hx
      rw [e]
      exact .inl L.kinds
    · subst he
      have J : Inv (cxOf CX0 X.prog X.w X.K X.mg X.base [p] q scope f (.ref c) X.A X.stack s H E0) [] (start [p] [v]) H s1 :=
        inv_start (ps := [p]) (us := [u]) (vs := [v]) L.sc hr.hd I.env0 rfl (.cons rv .nil) x
      refine ⟨I.nolimit.keeps x.toInCall.keep, PySem.W.kla_codeExpr (wpAny_mono ((L.body f c X.A X.stack s H).run [] s1 _ H Q J h) (fun v' s' hq => ?_) fun e s' hq => hq)⟩
      obtain ⟨w', H', J', rv', q'⟩ := hq
      exact ⟨w', H', J'.os, J'.bare, J'.base, J'.hok, rv', q'⟩
  refine wpAny_call (codeAny_mono rc fun r s' hq => ?_)
  cases r with
  | error e => exact False.elim hq
  | ok fl =>
    cases fl with
    | ret u => exact I.after hq
    | next => exact False.elim hq
    | brk => exact False.elim hq
    | cont => exact False.elim hq
/-- it is made: a new object, its code object new or found in the maker's table -/
def tMakeLam (P : Addr) (q : Str) (params : Arguments) (body : Expr) (scope : Scope) : TE := fun σ H Q => TabS H P q ∧
  ∀ f c H1, H f = none → (∀ b o, H b = some o → b ≠ P → H1 b = some o) → TabS H1 P q → H1 f = some (LamO f c q params body scope) → H1 c = some (CodeO c q) → Q (.ref f) H1
theorem pe_lam {q : Str} {params : Arguments} {body : Expr} {scope : Scope} {c P : Addr} {pos : Pos} (TB : TabB X.base X.mg c P) (hcode : X.env.code = .ref c) (hq : X.env.qual ++ "<lambda>" = q) (hdef : defaultsOf params X.env = ([], []))
    (hfree : ∀ y ∈ scope.names, y.2 ≠ .free) : PE X (.Lambda params body scope pos) (tMakeLam P q params body scope) := by
  refine ⟨fun pins s σ H Q I h => ?_⟩
  subst hq
  obtain ⟨⟨ps, hP, ht, ha⟩, hk⟩ := h
  have hclo : closureFor scope X.env = pure [] := by
    have e := closure_ok (scope := scope) (env := X.env) fun y hy e => absurd e (hfree y hy)
    rw [e]
    congr 1
    have : ∀ (l : List (Str × NameKind)), (∀ y ∈ l, y.2 ≠ .free) → L2.cloFrom X.env.cells l [] = [] := by
      intro l
      induction l with
      | nil => intro _; rfl
      | cons y r ih =>
        intro hl
        obtain ⟨n, k⟩ := y
        have hk' : k ≠ .free := hl (n, k) (List.mem_cons_self ..)
        have e1 : (k == NameKind.free) = false := by cases k <;> first | rfl | exact absurd rfl hk'
        show (if (k == NameKind.free) = true then _ else _) = _
        rw [e1, if_neg (by decide)]
        exact ih fun z hz => hl z (List.mem_cons_of_mem _ hz)
    exact this _ hfree
  refine PySem.W.kla_eval hdef ?_
  have bP : s.heap.BuiltinsAt X.mg P := TB.bm.keeps I.bk
  have hP' : s.heap.get? P = some { cls := .none, data := .fields ps } := I.hok P _ hP
  have fin : ∀ (h1 : Heap) (g1 : Nat) (H1 : Hp) (c' : Addr) (pm ctv : Value), Inv X pins σ H1 { s with heap := h1, toks := g1 } → s.heap.objs.size ≤ h1.objs.size → (∀ b o, H b = some o → b ≠ P → H1 b = some o) → TabS H1 P (X.env.qual ++ "<lambda>") → H1 c' = some (CodeO c' (X.env.qual ++ "<lambda>")) →
      EP X pins σ Q (.ref h1.objs.size) { s with heap := h1.push (PySem.W.kla_obj "<lambda>" (X.env.qual ++ "<lambda>") params body scope [] pm c' ctv), toks := g1 } := by
    intro h1 g1 H1 c' pm ctv I1 hsz hE hT hC
    have nf : H1 h1.objs.size = none := I1.hok.fresh (Nat.le_refl _)
    have new : ObjOk X.prog X.w (upd H1 h1.objs.size (LamO h1.objs.size c' (X.env.qual ++ "<lambda>") params body scope)) (h1.push (PySem.W.kla_obj "<lambda>" (X.env.qual ++ "<lambda>") params body scope [] pm c' ctv)) h1.objs.size (LamO h1.objs.size c' (X.env.qual ++ "<lambda>") params body scope) :=
      ⟨⟨pm, ctv, Heap.get?_push_size _ rfl⟩, ⟨_, Heap.get?_push_size _ rfl⟩, fun a b ⟨x, y, e⟩ k => ⟨x, y, k _ e⟩⟩
    have I2 := I1.laid (t' := g1) (fun b o e => Heap.get?_push_of_some _ e) (Nat.le_refl _) new
    have sm : Same H1 (upd H1 h1.objs.size (LamO h1.objs.size c' (X.env.qual ++ "<lambda>") params body scope)) := same_new nf
    refine ⟨.ref h1.objs.size, _, I2, rfl, hk _ c' _ (I.hok.fresh hsz) (fun b o e n => sm b o (hE b o e n)) (hT.ext sm) upd_same (sm _ _ hC)⟩
  cases hc : codeAmong pos ps.toList with
  | none =>
    refine PySem.W.kla_makeFunction (mg := X.mg) (c := c) (P := P) (ps := ps) hclo I.ok.glob (I.mod.glob.keeps I.bk) hcode (TB.code.keeps I.bk) hP' ht hc TB.gP bP fun c' ctv h' tk hx hge hlt hrec htb => ?_
    obtain ⟨c2, oc, vs, t, e2, hoc, hd, hv⟩ := hrec
    cases e2
    have hsz : s.heap.objs.size ≤ h'.objs.size := Nat.le_trans hge (Nat.le_of_lt hlt)
    have nC : H c' = none := I.hok.fresh hge
    have I1 := LamX.inv_table (t' := tk) (more := #[rawInt pos.line, rawInt pos.col, .ref c']) (h' := h') I hP hx htb hge ⟨oc, vs, t, hoc, hd, hv⟩
    have hE : ∀ b o, H b = some o → b ≠ P → (upd (upd H P (.tbl (ps ++ #[rawInt pos.line, rawInt pos.col, .ref c']))) c' (CodeO c' (X.env.qual ++ "<lambda>"))) b = some o := fun b o e n => by
      rw [upd_ne (ne_of_none e nC), upd_ne n]
      exact e
    refine fin h' tk _ c' _ ctv I1 hsz hE ⟨_, by rw [upd_ne (ne_of_none hP nC), upd_same], ?_, fun p' cv hcv => ?_⟩ upd_same
    · have eL : (ps ++ #[rawInt pos.line, rawInt pos.col, .ref c']).toList = ps.toList ++ [rawInt pos.line, rawInt pos.col, .ref c'] := by simp
      rw [eL]
      exact PySem.TriplesOk_snoc _ _ _ _ ht
    · have eL : (ps ++ #[rawInt pos.line, rawInt pos.col, .ref c']).toList = ps.toList ++ [rawInt pos.line, rawInt pos.col, .ref c'] := by simp
      rw [eL] at hcv
      rcases LamX.among_app _ ht hcv with z | z
      · obtain ⟨c0, e1, e2⟩ := ha p' cv z
        exact ⟨c0, e1, hE _ _ e2 (ne_of e2 hP (LamX.codeO_ne _))⟩
      · exact ⟨c', z, upd_same⟩
  | some cv =>
    obtain ⟨c', e, hco⟩ := ha pos cv hc
    subst e
    refine PySem.W.kla_makeFunctionHit (mg := X.mg) (c := c) (P := P) (ps := ps) hclo I.ok.glob (I.mod.glob.keeps I.bk) hcode (TB.code.keeps I.bk) hP' ht hc bP fun ctv h' tk hx hsz => ?_
    exact fin h' tk H c' _ ctv (I.kept hx) hsz (fun b o e _ => e) ⟨ps, hP, ht, ha⟩ hco
end
end SF
end -- W3

section -- F4
set_option Elab.async false
set_option linter.all false
set_option maxRecDepth 100000
set_option maxHeartbeats 2000000
/-! # F4: run and what it is handed; name, take_number -/
namespace SF
open PySem PySem.Spec PyProof.Rows L2
open LamX (CodeO TabS ExtN TabB)
variable {P : Program} {w : World} {K : PySem.W.Frag} {mg : Str → Option Value} {base : Heap}
/-! ### the lambda of string: byte != QUOTE -/
def lamE : Expr := match (defBody s_R_string).getD 2 (.Pass ⟨0, 0, 0, 0⟩) with
  | .Assign _ (.Call _ (e :: _) _ _) _ => e
  | _ => .Constant .none 0 ⟨0, 0, 0, 0⟩
def lamP : Arguments := match lamE with
  | .Lambda a _ _ _ => a
  | _ => { posonlyargs := [], args := [], vararg := none, kwonlyargs := [], kw_defaults := [], kwarg := none, defaults := [] }
def lamB : Expr := match lamE with
  | .Lambda _ b _ _ => b
  | _ => .Constant .none 0 ⟨0, 0, 0, 0⟩
def lamSc : Scope := match lamE with
  | .Lambda _ _ s _ => s
  | _ => { kind := .function, names := [], isGenerator := false, isCoroutine := false }
abbrev lamQ : Str := "Reader.string.<locals>.<lambda>"
def tNotQ : TE := tOp rNe (tVar 0) (tC (.int 34))
theorem lam1 {X : Cx} (T : Txt X.K X.mg) : Lam1 X "byte" lamQ lamP lamB lamSc tNotQ where
  sc := ⟨rfl, rfl, rfl, by decide +kernel, rfl, by decide +kernel, by decide +kernel⟩
  bind := fun _ _ _ _ => rfl
  kinds := rfl
  body := fun f c A outer s H => pe_cmpR op_ne (pv 0) (pgi (T.int ("QUOTE", 34) (by decide +kernel))) (nomark _)
/-! ### what run is handed: a def, or the lambda -/
def notQ (b : Int) : Bool := !decide (b = 34)
/-- f is a rule that answers g -/
def RuleAt (K : PySem.W.Frag) (H : Hp) (f : Addr) (g : Int → Bool) : Prop :=
  (f = He.ga K "is_digit" ∧ g = isDig) ∨ (f = He.ga K "is_name_sign" ∧ g = isNam) ∨ ((∃ c, H f = some (LamO f c lamQ lamP lamB lamSc) ∧ H c = some (CodeO c lamQ)) ∧ g = notQ)
theorem lamO_ins {f c : Addr} {q : Str} {params : Arguments} {body : Expr} {scope : Scope} {C dx : Addr} {fs : List (Str × V)} : LamO f c q params body scope ≠ .ins C dx fs := fun z => by
  unfold LamO at z
  cases z
theorem codeO_ins {c : Addr} {q : Str} {C dx : Addr} {fs : List (Str × V)} : CodeO c q ≠ .ins C dx fs := fun z => by
  unfold CodeO at z
  cases z
theorem RuleAt.chg {H H' : Hp} {f p : Addr} {g : Int → Bool} (r : RuleAt K H f g) (c : Chg p H H') (hp : ∃ C dx fs, H p = some (.ins C dx fs)) : RuleAt K H' f g := by
  obtain ⟨C, dx, fs, hp⟩ := hp
  rcases r with r | r | ⟨⟨cc, e1, e2⟩, r⟩
  · exact .inl r
  · exact .inr (.inl r)
  · exact .inr (.inr ⟨⟨cc, c _ _ e1 (ne_of e1 hp lamO_ins), c _ _ e2 (ne_of e2 hp codeO_ins)⟩, r⟩)
/-- rule(e), the rule in slot i -/
def tRule (K : PySem.W.Frag) (i : Nat) (te : TE) : TE := fun σ H Q => ∃ f g, σ[i]? = some (some (.ref f)) ∧ te σ H fun x H1 => ∃ b, x = .int b ∧ RuleAt K H1 f g ∧ Q (.bl (g b)) H1
theorem pe_rule {X : Cx} {i : Nat} {x : Str} {p pos : Pos} {e : Expr} {te : TE} (T : Txt X.K X.mg) (hr : Room 3 X.A) (ha : PE X e te) (hN : X.N[i]? = some x := by rfl) (hv : Vis X.env.scope x := by first | exact Or.inl rfl | exact Or.inr (Or.inl rfl) | exact Or.inr (Or.inr rfl))
    (hdb : (x == ("__debug__" : Str)) = false := by decide) (hcd : (x == ("__classdict__" : Str)) = false := by decide)
    (he : starEach (e :: []) X.env = (false, eval e X.env) :: starEach [] X.env := by rfl) (hpl : (backTo pos (starEach [] X.env)).any (·.1) = false := by rfl) : PE X (.Call (.Name x p) [e] [] pos) (tRule X.K i te) := by
  refine ⟨fun pins s σ H Q I h => ?_⟩
  obtain ⟨f, g, hs, ht⟩ := h
  refine wpAny_Call_Name_kw (thn ((pe_var (pos := p) hN hv hdb hcd).run pins s σ H (fun v H1 => v = .ref f ∧ H1 = H) I ⟨.ref f, hs, rfl, rfl⟩) fun u s1 ⟨v, H1, I1, r1, q1⟩ => ?_)
  obtain ⟨rfl, rfl⟩ := q1
  cases r1
  have pa := pa_cons (X := X) ha pa_nil he
  have go : wpAny (model X.prog X.w) X.A (spliced (backTo pos (starEach [e] X.env))) (AP X pins σ fun vs H1 => ∃ b, vs = [.int b] ∧ RuleAt X.K H1 f g ∧ Q (.bl (g b)) H1) X.xe s1 := by
    exact (pa_cons (X := X) (te := upE te) (t := tNil) (pe_up ha) pa_nil he).run pos pins s1 σ _ _ I1 ⟨_, ht, fun v H' ⟨b, e1, e2, e3⟩ => ⟨b, by rw [e1], e2, e3⟩⟩
  have static : ∀ {nm : Str} {k : Nat}, DefOk X.prog X.w X.K X.mg X.base CX0 k f ["byte"] (spByte g) → k ≤ 3 →
      wpAny (model X.prog X.w) X.A (callWith pos (.ref f) [] (backTo pos (starEach [e] X.env)) []) (EP X pins σ Q) X.xe s1 := by
    intro nm k D hk
    obtain ⟨fd, F, hb, hkp⟩ := D.ex
    refine PySem.W.callWith_K (h₀ := X.base) I1.ok.mod.kin hkp (thn go fun us s2 ⟨vs, H2, I2, r, b, e1, _, q⟩ => ⟨I2.kIn, ?_⟩) he hpl
    refine run_fn (E := E0) F (hr.mono hk) hb .nil pass0 I2 r ?_
    rw [e1]
    exact ⟨b, rfl, q⟩
  have go2 := go
  by_cases c1 : f = He.ga X.K "is_digit" ∧ g = isDig
  · obtain ⟨rfl, rfl⟩ := c1
    exact static (nm := "") (ok_is_digit T) (by decide)
  · by_cases c2 : f = He.ga X.K "is_name_sign" ∧ g = isNam
    · obtain ⟨rfl, rfl⟩ := c2
      exact static (nm := "") (ok_is_name_sign T) (by decide)
    · have go3 : wpAny (model X.prog X.w) X.A (spliced (backTo pos (starEach [e] X.env))) (fun us s2 => PySem.W.FnAt f s2.heap ∧ wpAny (model X.prog X.w) X.A (call (.ref f) ([] ++ us)) (EP X pins σ Q) X.xe s2) X.xe s1 := by
        refine thn go fun us s2 ⟨vs, H2, I2, r, b, e1, ra, q⟩ => ?_
        rcases ra with z | z | ⟨⟨c, h1, h2⟩, rfl⟩
        · exact absurd z c1
        · exact absurd z c2
        · obtain ⟨pm, ctv, hof⟩ := lamO_at I2.hok h1
          refine ⟨⟨_, _, _, _, hof⟩, ?_⟩
          rw [e1] at r
          obtain ⟨u, rfl, ru⟩ := vals1 r
          refine lam_call (lam1 T) I2 h1 h2 hr ru ?_
          refine ⟨_, rfl, rfl, qb q ?_⟩
          unfold notQ
          rw [dec_int, dib]
      rw [he] at go3 ⊢
      exact PySem.W.callWith_of (by show ((false || (backTo pos (starEach [] X.env)).any (·.1)) || false) = false; rw [hpl]; rfl) PySem.W.keeps_F (PySem.Calls.evalArgs_plain go3)
/-! ### run -/
/-- the longest run of signs from a place on that a rule lets -/
def runT (g : Int → Bool) (t : List Nat) (i : Nat) : List Nat := (t.drop i).takeWhile fun c => g c
def spRun (K : PySem.W.Frag) : Sp := fun vs H Q _ => ∃ (p a : Addr) (t : List Nat) (i : Nat) (f : Addr) (g : Int → Bool), vs = [.ref p, .ref f] ∧ RdAt K H p a t i ∧ RuleAt K H f g ∧
  ∀ H' l, RdAt K H' p a t (i + (runT g t i).length) → Chg p H H' → H' l = some (.lst (vT (runT g t i))) → Q (.ref l) H'
theorem runT_stop {g : Int → Bool} {t : List Nat} {i : Nat} {c : Nat} (h : t[i]? = some c) (hg : g c = false) : runT g t i = [] := by
  obtain ⟨hlt, e⟩ := List.getElem?_eq_some_iff.mp h
  unfold runT
  rw [List.drop_eq_getElem_cons hlt, e]
  exact List.takeWhile_cons_of_neg (p := fun c : Nat => g c) (by rw [hg]; decide)
theorem runT_end {g : Int → Bool} {t : List Nat} {i : Nat} (h : t.length ≤ i) : runT g t i = [] := by
  unfold runT
  rw [List.drop_eq_nil_of_le h]
  rfl
theorem runT_go {g : Int → Bool} {t : List Nat} {i : Nat} {c : Nat} (h : t[i]? = some c) (hg : g c = true) : runT g t i = c :: runT g t (i + 1) := by
  obtain ⟨hlt, e⟩ := List.getElem?_eq_some_iff.mp h
  unfold runT
  rw [List.drop_eq_getElem_cons hlt, e]
  exact List.takeWhile_cons_of_pos (p := fun c : Nat => g c) hg
theorem runT_le (g : Int → Bool) (t : List Nat) (i : Nat) : (runT g t i).length ≤ t.length - i := by
  unfold runT
  have := (List.takeWhile_prefix (l := t.drop i) fun c : Nat => g c).length_le
  rwa [List.length_drop] at this
theorem take_run (g : Int → Bool) (t : List Nat) (i : Nat) : (t.drop i).take (runT g t i).length = runT g t i := by
  unfold runT
  exact (List.prefix_iff_eq_take.mp (List.takeWhile_prefix _)).symm
theorem sc_R_run : FnScope ["self", "rule", "before"] ["self", "rule"] (defScope s_R_run) := ⟨rfl, rfl, rfl, by decide +kernel, rfl, by decide +kernel, by decide +kernel⟩
theorem ok_R_run (T : Txt K mg) : DefOk P w K mg base CX0 4 (He.ma K (CR K) "run") ["self", "rule"] (spRun K) := by
  obtain ⟨fd, F⟩ := dT T defsA (.inl rfl) 14 rfl
  refine ⟨fd, ?_, bind2 F fun _ _ _ _ _ _ _ _ => rfl, F.kp⟩
  have mlen := T.free "len" (by decide +kernel)
  have nd := sc_R_run.nd
  refine F.ok sc_R_run (fun vs H Q E h => by obtain ⟨p, a, t, i, f, g, rfl, _⟩ := h; rfl) (fun cdv A outer s H vs Q E hr h => ⟨_,
    pss_cons (ps_set (i := 2) nd rfl (.inl rfl) (pe_fld (pv 0) rfl))
    (pss_cons (ps_while PassesOwn.never (PW.pt (pw_and (pt_cmpR op_lt (pe_fld (pv 0) rfl) (pe_callB call_len_seq rfl mlen PySem.boot_len (pa_cons (pe_fld (pv 0) rfl) pa_nil)) (nomark _))
        (pw_and1 (pt_val (pe_rule (i := 1) T hr (pe_ix ix_list (pe_fld (pv 0) rfl) (pe_fld (pv 0) rfl) (fun _ _ => rfl)))))))
      (pss_one (ps_fldaug (pv 0) pe_int in_add)))
    (pss_one (ps_ret (pe_slice sl_list (pe_fld (pv 0) rfl) (po_some (pv 2)) (po_some (pe_fld (pv 0) rfl)))))), ?_⟩)
  obtain ⟨p, a, t, i, f, g, rfl, R, ra, q⟩ := h
  obtain ⟨dx, hp⟩ := R.ins
  refine ⟨_, rfl, p, _, dx, _, _, rfl, hp, tcl T, tna T, rF_at, ?_⟩
  refine ⟨fun m σ H' => ∃ j, m = t.length - j ∧ σ = [some (.ref p), some (.ref f), some (.int i)] ∧ RdAt K H' p a t j ∧ Chg p H H' ∧ i ≤ j ∧ runT g t i = (t.drop i).take (j - i) ++ runT g t j,
    ⟨_, i, rfl, rfl, R, fun b o e _ => e, Nat.le_refl _, by simp⟩, ?_⟩
  rintro m σ H' ⟨j, rfl, rfl, R', c', hij, e'⟩
  obtain ⟨dx', hp'⟩ := R'.ins
  have hle := R'.le
  have fin : runT g t j = [] → tRet (tSl (rSlL K) (tFld K (tVar 0) "text") (tPart (tVar 2)) (tPart (tFld K (tVar 0) "at"))) { nx := fun _ H' => Q .non H', rt := Q } [some (.ref p), some (.ref f), some (.int i)] H' := fun e0 => by
    rw [e0, List.append_nil] at e'
    have el : (runT g t i).length = j - i := by
      rw [e', List.length_take, List.length_drop]
      omega
    refine ⟨_, rfl, p, _, dx', _, _, rfl, hp', tcl T, tnt T, rF_text, _, rfl, _, rfl, ?_⟩
    refine ⟨_, rfl, p, _, dx', _, _, rfl, hp', tcl T, tna T, rF_at, _, rfl, a, _, rfl, R'.txt, fun l nl => ?_⟩
    have s5 : Same H' (upd H' l (.lst (vT (runT g t i)))) := same_new nl
    rw [cut_vT, ← e']
    exact q _ l (by rw [el, show i + (j - i) = j by omega]; exact R'.same s5) (c'.trans (Same.chg s5)) upd_same
  refine ⟨_, rfl, p, _, dx', _, _, rfl, hp', tcl T, tna T, rF_at, ?_⟩
  refine ⟨_, rfl, p, _, dx', _, _, rfl, hp', tcl T, tnt T, rF_text, a, _, rfl, .inl R'.txt, _, _, rfl, rfl, _, rfl, ifb (fun c => ?_) fun c => ?_⟩
  · rw [List.length_map] at c
    have hlt : j < t.length := by have := of_decide_eq_true c; omega
    have hx := List.getElem?_eq_getElem hlt
    refine ⟨f, g, rfl, _, rfl, p, _, dx', _, _, rfl, hp', tcl T, tnt T, rF_text, ?_⟩
    refine ⟨_, rfl, p, _, dx', _, _, rfl, hp', tcl T, tna T, rF_at, a, _, j, _, rfl, rfl, R'.txt, atI_nat (vT_at hx), _, rfl, ra.chg c' ⟨_, _, _, hp⟩, _, rfl, ifb (fun c2 => ?_) fun c2 => ?_⟩
    · refine ⟨fun σ' H2 => ∃ m', m' < t.length - j ∧ ∃ j, m' = t.length - j ∧ σ' = [some (.ref p), some (.ref f), some (.int i)] ∧ RdAt K H2 p a t j ∧ Chg p H H2 ∧ i ≤ j ∧ runT g t i = (t.drop i).take (j - i) ++ runT g t j, fun _ _ z => z, ?_⟩
      refine ⟨_, rfl, p, _, dx', _, _, rfl, hp', tcl T, tna T, rF_at, _, _, rfl, rfl, dx', _, hp', (by show 2 < 1000; decide), _, ?_, j + 1, rfl, rfl, R'.chg chg_upd ⟨dx', ?_⟩ (by omega), c'.trans chg_upd, by omega, ?_⟩
      · omega
      · rw [upd_same, rF_put (j := j + 1) (by omega)]
      · rw [e', runT_go hx c2, show j + 1 - i = (j - i) + 1 by omega]
        have : (t.drop i)[j - i]? = some t[j] := by
          rw [List.getElem?_drop, show i + (j - i) = j by omega]
          exact hx
        rw [take_more this]
        simp
    · exact fin (runT_stop hx c2)
  · rw [List.length_map] at c
    have hge : t.length ≤ j := by have := of_decide_eq_false c; omega
    exact ifF rfl (fin (runT_end hge))
/-! ### name -/
end SF
end -- F4

section -- W4
set_option Elab.async false
set_option linter.all false
set_option maxRecDepth 100000
set_option maxHeartbeats 2000000
/-! # W4: lists compared -/
namespace SF
open PySem PySem.Spec PyProof.Rows L2
section
variable {X : Cx}
theorem isList_of {pins : List (Addr × Obj)} {σ : L2.St} {H : Hp} {s : Shared} {a : Addr} {xs : List V} (I : Inv X pins σ H s) (h : SqL X.K H a xs) : ∃ its : List Value, Vals xs its ∧ s.heap.IsList a its.toArray := by
  obtain ⟨its, r, ⟨o, n, e1, e2, _, e3⟩, _⟩ := I.list h
  exact ⟨its, r, ⟨o, e1, e2, n, e3⟩⟩
/-- a list against an empty one -/
def rEqNil (K : PySem.W.Frag) : R2 := fun x y H Q => ∃ a b xs, x = .ref a ∧ y = .ref b ∧ SqL K H a xs ∧ SqL K H b [] ∧ Q (.bl xs.isEmpty) H
def rNeNil (K : PySem.W.Frag) : R2 := fun x y H Q => ∃ a b xs, x = .ref a ∧ y = .ref b ∧ SqL K H a xs ∧ SqL K H b [] ∧ Q (.bl (!xs.isEmpty)) H
theorem op_eqNil (hu : X.A.units < cLine) : OpR X (compareOp .Eq) (rEqNil X.K) := by
  intro pins s σ H x y v u Q I rx ry ⟨a, b, xs, ex, ey, ha, hb, q⟩
  subst ex
  subst ey
  cases rx
  cases ry
  obtain ⟨its, r, l1⟩ := isList_of I ha
  obtain ⟨its2, r2, l2⟩ := isList_of I hb
  cases r2
  cases xs with
  | nil =>
    cases r
    exact SeqAt.eq_listAt (e := fun _ => true) l1 l2 rfl hu (fun j h _ => absurd h (by simp)) ⟨.bl true, H, I, rfl, q⟩
  | cons z zs =>
    cases r with
    | cons r0 r1 => exact SeqAt.eq_list_lengthsAt l1 l2 (by simp) hu ⟨.bl false, H, I, rfl, q⟩
theorem op_neNil (hu : X.A.units < cLine) : OpR X (compareOp .NotEq) (rNeNil X.K) := by
  intro pins s σ H x y v u Q I rx ry ⟨a, b, xs, ex, ey, ha, hb, q⟩
  subst ex
  subst ey
  cases rx
  cases ry
  obtain ⟨its, r, l1⟩ := isList_of I ha
  obtain ⟨its2, r2, l2⟩ := isList_of I hb
  cases r2
  cases xs with
  | nil =>
    cases r
    exact SeqAt.RcNeAt.lists (e := fun _ => true) l1 l2 rfl hu (fun j h _ => absurd h (by simp)) _ _ _ _ ⟨.bl false, H, I, rfl, q⟩
  | cons z zs =>
    cases r with
    | cons r0 r1 => exact SeqAt.RcNeAt.lists_lengths l1 l2 (by simp) hu _ _ _ _ ⟨.bl true, H, I, rfl, q⟩
/-- two lists of whole numbers -/
def rEqI (K : PySem.W.Frag) : R2 := fun x y H Q => ∃ (a b : Addr) (ns ms : List Int), x = .ref a ∧ y = .ref b ∧ SqL K H a (ns.map V.int) ∧ SqL K H b (ms.map V.int) ∧ Q (.bl (decide (ns = ms))) H
def rNeI (K : PySem.W.Frag) : R2 := fun x y H Q => ∃ (a b : Addr) (ns ms : List Int), x = .ref a ∧ y = .ref b ∧ SqL K H a (ns.map V.int) ∧ SqL K H b (ms.map V.int) ∧ Q (.bl (!decide (ns = ms))) H
theorem ints_at {ns : List Int} {its : List Value} (r : Vals (ns.map V.int) its) {j : Nat} (h : j < its.toArray.size) : ∃ t, its.toArray[j] = Value.int (ns.getD j 0) t := by
  have hl := r.length
  rw [List.length_map] at hl
  have h' : j < its.length := by simpa using h
  have e : (ns.map V.int)[j]? = some (V.int (ns.getD j 0)) := by
    rw [List.getElem?_map, List.getD_eq_getElem?_getD, List.getElem?_eq_getElem (by omega)]
    rfl
  obtain ⟨u, h1, h2⟩ := r.get e
  obtain ⟨t, rfl⟩ := h2
  refine ⟨t, ?_⟩
  rw [List.getElem?_eq_getElem h'] at h1
  have := Option.some.inj h1
  rw [← this]
  simp
theorem all_eq : ∀ (ns ms : List Int), ns.length = ms.length → ((List.range ns.length).all fun j => ns.getD j 0 == ms.getD j 0) = decide (ns = ms) := by
  intro ns ms hl
  by_cases e : ns = ms
  · subst e
    simp
  · rw [decide_eq_false e]
    cases h : (List.range ns.length).all fun j => ns.getD j 0 == ms.getD j 0 with
    | false => rfl
    | true =>
      exfalso
      apply e
      apply List.ext_getElem hl
      intro j h1 h2
      have := List.all_eq_true.mp h j (List.mem_range.mpr h1)
      rw [beq_iff_eq, List.getD_eq_getElem?_getD, List.getD_eq_getElem?_getD, List.getElem?_eq_getElem h1, List.getElem?_eq_getElem h2] at this
      exact this
theorem op_eqI (hu : X.A.units < cLine) : OpR X (compareOp .Eq) (rEqI X.K) := by
  intro pins s σ H x y v u Q I rx ry ⟨a, b, ns, ms, ex, ey, ha, hb, q⟩
  subst ex
  subst ey
  cases rx
  cases ry
  obtain ⟨its, r, l1⟩ := isList_of I ha
  obtain ⟨its2, r2, l2⟩ := isList_of I hb
  have z1 := r.length
  have z2 := r2.length
  rw [List.length_map] at z1 z2
  by_cases hl : ns.length = ms.length
  · refine SeqAt.eq_listAt (e := fun j => ns.getD j 0 == ms.getD j 0) l1 l2 (by simp; omega) hu (fun j h1 h2 => ?_) ⟨.bl _, H, I, rfl, ?_⟩
    · obtain ⟨t, e1⟩ := ints_at r h1
      obtain ⟨t', e2⟩ := ints_at r2 h2
      rw [e1, e2]
      exact fun prog w E Q hq => wpAny_eqBool_int hq
    · rw [List.size_toArray, ← z1, all_eq ns ms hl]
      exact q
  · refine SeqAt.eq_list_lengthsAt l1 l2 (by simp; omega) hu ⟨.bl false, H, I, rfl, ?_⟩
    have e : decide (ns = ms) = false := decide_eq_false fun e => hl (congrArg _ e)
    rw [e] at q
    exact q
theorem op_neI (hu : X.A.units < cLine) : OpR X (compareOp .NotEq) (rNeI X.K) := by
  intro pins s σ H x y v u Q I rx ry ⟨a, b, ns, ms, ex, ey, ha, hb, q⟩
  subst ex
  subst ey
  cases rx
  cases ry
  obtain ⟨its, r, l1⟩ := isList_of I ha
  obtain ⟨its2, r2, l2⟩ := isList_of I hb
  have z1 := r.length
  have z2 := r2.length
  rw [List.length_map] at z1 z2
  by_cases hl : ns.length = ms.length
  · refine SeqAt.RcNeAt.lists (e := fun j => ns.getD j 0 == ms.getD j 0) l1 l2 (by simp; omega) hu (fun j h1 h2 => ?_) _ _ _ _ ⟨.bl _, H, I, rfl, ?_⟩
    · obtain ⟨t, e1⟩ := ints_at r h1
      obtain ⟨t', e2⟩ := ints_at r2 h2
      rw [e1, e2]
      exact fun prog w E Q hq => wpAny_eqBool_int hq
    · rw [List.size_toArray, ← z1, all_eq ns ms hl]
      exact q
  · refine SeqAt.RcNeAt.lists_lengths l1 l2 (by simp; omega) hu _ _ _ _ ⟨.bl true, H, I, rfl, ?_⟩
    have e : decide (ns = ms) = false := decide_eq_false fun e => hl (congrArg _ e)
    rw [e] at q
    exact q
end
end SF
end -- W4

section -- W5
set_option Elab.async false
set_option linter.all false
set_option maxRecDepth 100000
set_option maxHeartbeats 2000000
/-! # W5: names (tuples of bytes) in a list of names -/
namespace SF
open PySem PySem.Spec PyProof.Rows L2
/-- names as they lie -/
def Nms (H : Hp) : List V → List (List Nat) → Prop
  | [], [] => True
  | x :: xs, s :: ss => (∃ n, x = .ref n ∧ H n = some (.tup (vT s))) ∧ Nms H xs ss
  | _, _ => False
theorem Nms.mono {H H' : Hp} (k : ∀ a xs, H a = some (.tup xs) → H' a = some (.tup xs)) : ∀ {xs : List V} {ss : List (List Nat)}, Nms H xs ss → Nms H' xs ss
  | [], [], _ => trivial
  | x :: xs, s :: ss, ⟨⟨n, e, h⟩, r⟩ => ⟨⟨n, e, k _ _ h⟩, r.mono k⟩
  | [], _ :: _, h => h.elim
  | _ :: _, [], h => h.elim
theorem Nms.len {H : Hp} : ∀ {xs : List V} {ss : List (List Nat)}, Nms H xs ss → xs.length = ss.length
  | [], [], _ => rfl
  | x :: xs, s :: ss, ⟨_, r⟩ => congrArg (· + 1) r.len
  | [], _ :: _, h => h.elim
  | _ :: _, [], h => h.elim
theorem Nms.app {H : Hp} {n : Addr} {s : List Nat} (hn : H n = some (.tup (vT s))) : ∀ {xs : List V} {ss : List (List Nat)}, Nms H xs ss → Nms H (xs ++ [.ref n]) (ss ++ [s])
  | [], [], _ => ⟨⟨n, rfl, hn⟩, trivial⟩
  | x :: xs, s :: ss, ⟨h, r⟩ => ⟨h, r.app hn⟩
  | [], _ :: _, h => h.elim
  | _ :: _, [], h => h.elim
theorem Nms.at {H : Hp} : ∀ {xs : List V} {ss : List (List Nat)} {i : Nat} {x : V}, Nms H xs ss → xs[i]? = some x → ∃ n s, x = .ref n ∧ ss[i]? = some s ∧ H n = some (.tup (vT s))
  | [], [], _, _, _, h => by simp at h
  | x :: xs, s :: ss, 0, y, ⟨⟨n, e, h⟩, r⟩, hy => by
    have : x = y := Option.some.inj hy
    exact ⟨n, s, this ▸ e, rfl, h⟩
  | x :: xs, s :: ss, i + 1, y, ⟨_, r⟩, hy => by
    obtain ⟨n, s', a, b, c⟩ := r.at (i := i) (x := y) hy
    exact ⟨n, s', a, b, c⟩
  | [], _ :: _, _, _, h, _ => h.elim
  | _ :: _, [], _, _, h, _ => h.elim
def nmD (s : List Nat) : PyData := .tuple (s.map fun c => .int (Int.ofNat c))
theorem nm_layA : ∀ s : List Nat, PyData.canLayAll0 (s.map fun c => PyData.int (Int.ofNat c)) = true
  | [] => by simp [PyData.canLayAll0]
  | c :: s => by simp only [List.map_cons, PyData.canLayAll0, PyData.canLay0, nm_layA s, Bool.true_and]
theorem nm_depA : ∀ s : List Nat, PyData.depthAll (s.map fun c => PyData.int (Int.ofNat c)) = 0
  | [] => by simp [PyData.depthAll]
  | c :: s => by simp only [List.map_cons, PyData.depthAll, PyData.depth, nm_depA s, Nat.max_self]
theorem nmD_lay (s : List Nat) : (nmD s).canLay0 = true := by
  unfold nmD PyData.canLay0
  exact nm_layA s
theorem nmD_depth (s : List Nat) : (nmD s).depth = 1 := by
  unfold nmD PyData.depth
  rw [nm_depA]
theorem nmDs_lay : ∀ l : List (List Nat), PyData.canLayAll0 (l.map nmD) = true
  | [] => by simp [PyData.canLayAll0]
  | z :: zs => by simp [PyData.canLayAll0, nmD_lay z, nmDs_lay zs]
theorem nmDs_depth : ∀ l : List (List Nat), PyData.depthAll (l.map nmD) ≤ 1
  | [] => by simp [PyData.depthAll]
  | z :: zs => by
    have h1 := nmDs_depth zs
    have h2 := nmD_depth z
    simp only [List.map_cons, PyData.depthAll]
    omega
theorem nmD_shaped (s : List Nat) : SeqAt.shaped (nmD s) = true := by
  have h := nmD_depth s
  show ((nmD s).canLay0 && decide ((nmD s).depth ≤ 64)) = true
  rw [Bool.and_eq_true]
  exact ⟨nmD_lay s, decide_eq_true (by omega)⟩
theorem nmDs_shaped (l : List (List Nat)) : SeqAt.shaped (.list (l.map nmD)) = true := by
  have h1 := nmDs_depth l
  have h2 : PyData.depth (.list (l.map nmD)) ≤ 64 := by
    simp only [PyData.depth]
    omega
  show (PyData.canLay0 (.list (l.map nmD)) && decide (PyData.depth (.list (l.map nmD)) ≤ 64)) = true
  rw [Bool.and_eq_true]
  exact ⟨by simp only [PyData.canLay0]; exact nmDs_lay l, decide_eq_true h2⟩
theorem nm_eqA : ∀ s t : List Nat, PyData.eqvAll (s.map fun c => PyData.int (Int.ofNat c)) (t.map fun c => PyData.int (Int.ofNat c)) = (s == t)
  | [], [] => rfl
  | [], _ :: _ => by simp [PyData.eqvAll]
  | _ :: _, [] => by simp [PyData.eqvAll]
  | c :: s, e :: t => by
    have h : ((c : Int) == (e : Int)) = (c == e) := by
      by_cases z : c = e
      · rw [z]; simp
      · rw [beq_eq_false_iff_ne.mpr (by omega : (c : Int) ≠ e), beq_eq_false_iff_ne.mpr z]
    simp only [List.map_cons, PyData.eqvAll, PyData.eqv, nm_eqA s t]
    show (((c : Int) == (e : Int)) && (s == t)) = _
    rw [h]
    rfl
theorem nmD_eqv (s t : List Nat) : PyData.eqv (nmD s) (nmD t) = (s == t) := by
  unfold nmD
  rw [PyData.eqv]
  exact nm_eqA s t
theorem dp_ints {K : PySem.W.Frag} {H : Hp} : ∀ s : List Nat, DpAll K H (vT s) (s.map fun c => PyData.int (Int.ofNat c))
  | [] => .nil
  | c :: s => .cons (.int _) (dp_ints s)
theorem dp_name {K : PySem.W.Frag} {H : Hp} {n : Addr} {s : List Nat} (h : H n = some (.tup (vT s))) : Dp K H (.ref n) (nmD s) := .tup (SqT.of h) (dp_ints s)
theorem dp_names {K : PySem.W.Frag} {H : Hp} : ∀ {xs : List V} {ss : List (List Nat)}, Nms H xs ss → DpAll K H xs (ss.map nmD)
  | [], [], _ => .nil
  | x :: xs, s :: ss, ⟨⟨n, e, h⟩, r⟩ => by
    rw [e]
    exact .cons (dp_name h) (dp_names r)
  | [], _ :: _, h => h.elim
  | _ :: _, [], h => h.elim
/-- name in names -/
def rInN (K : PySem.W.Frag) : R2 := fun x y H Q => ∃ (n b : Addr) (s : List Nat) (xs : List V) (ss : List (List Nat)), x = .ref n ∧ y = .ref b ∧ H n = some (.tup (vT s)) ∧ SqL K H b xs ∧ Nms H xs ss ∧ Q (.bl (ss.contains s)) H
theorem op_inN {X : Cx} (hu : X.A.units + 65 < cLine) : OpR X (compareOp .In) (rInN X.K) := by
  intro pins s σ H x y v u Q I rx ry h
  obtain ⟨n, b, nm, xs, ss, rfl, rfl, hn, hb, hN, q⟩ := h
  refine op_inD hu pins s σ H _ _ v u Q I rx ry ⟨nmD nm, ss.map nmD, dp_name hn, .lst hb (dp_names hN), nmD_shaped nm, nmDs_shaped ss, ?_⟩
  have e : ((ss.map nmD).any fun z => PyData.eqv z (nmD nm)) = ss.contains nm := by
    rw [List.any_map]
    have : ∀ (l : List (List Nat)), l.any ((fun z => PyData.eqv z (nmD nm)) ∘ nmD) = l.contains nm := by
        intro l
        induction l with
        | nil => rfl
        | cons a l ih =>
          rw [List.any_cons, List.contains_cons, ih]
          show (PyData.eqv (nmD a) (nmD nm) || _) = _
          rw [nmD_eqv]
          have c : (a == nm) = (nm == a) := by
            by_cases z : a = nm
            · rw [z]
            · rw [beq_eq_false_iff_ne.mpr z, beq_eq_false_iff_ne.mpr (Ne.symm z)]
          rw [c]
    exact this ss
  rw [e]
  exact q

end SF
end -- W5

section -- F5
set_option Elab.async false
set_option linter.all false
set_option maxRecDepth 100000
set_option maxHeartbeats 2000000
/-! # F5: name, take_number, string -/
namespace SF
open PySem PySem.Spec PyProof.Rows L2
open LamX (CodeO TabS ExtN TabB)
variable {P : Program} {w : World} {K : PySem.W.Frag} {mg : Str → Option Value} {base : Heap}
/-! ### name -/
def spName (K : PySem.W.Frag) : Sp := fun vs H Q E => ∃ (p a : Addr) (t : List Nat) (i : Nat), vs = [.ref p] ∧ RdAt K H p a t i ∧
  (isName (runT isNam t i) = true → ∀ H' l, RdAt K H' p a t (i + (runT isNam t i).length) → Chg p H H' → H l = none → H' l = some (.tup (vT (runT isNam t i))) → Q (.ref l) H') ∧
  (isName (runT isNam t i) = false → Flt K p 1 i H E)
theorem sc_R_name : FnScope ["self", "place", "found"] ["self"] (defScope s_R_name) := ⟨rfl, rfl, rfl, by decide +kernel, rfl, by decide +kernel, by decide +kernel⟩
theorem Txt.cl (T : Txt K mg) : Cls K (CR K) := tcl T
theorem meth_none {a : Addr} {i : Nat} (m : Str) (h : (m == ("text" : Str)) = false ∧ (m == ("at" : Str)) = false) : (rF a i).lookup m = none := rF_no h.1 h.2
theorem ok_R_name (T : Txt K mg) : DefOk P w K mg base (L2.CX P w) 6 (He.ma K (CR K) "name") ["self"] (spName K) := by
  obtain ⟨fd, F⟩ := dT T defsA (.inl rfl) 15 rfl
  refine ⟨fd, ?_, bind1 F fun _ _ _ _ _ _ _ => rfl, F.kp⟩
  have mtup := T.free "tuple" (by decide +kernel)
  have nd := sc_R_name.nd
  refine F.okX sc_R_name (fun vs H Q E h => by obtain ⟨p, a, t, i, rfl, _⟩ := h; rfl) (fun cdv A outer s H vs Q E hr h => ⟨_,
    pss_cons (ps_set (i := 1) nd rfl (.inl rfl) (pe_fld (pv 0) rfl))
    (pss_cons (ps_set (i := 2) nd rfl (.inl rfl) (pmeth (ok_R_run T) (pv 0) (tcl T) (tm T "run" (by decide +kernel)) (hr.mono (by decide)) pass0 (pa_cons (pgr (T.glo "is_name_sign" (by decide +kernel))) pa_nil)))
    (pss_cons (ps_if (pt_not (pt_val (pcall (ok_is_name T) (hr.mono (by decide)) (T.glo "is_name" (by decide +kernel)) pass0 (pa_cons (pv 2) pa_nil))))
      (pss_one (ps_fault rfl (takes_of rfl rfl rfl rfl) T (hr.mono (by decide)) (pa_cons (pgi (T.int ("WRONG", 1) (by decide +kernel))) (pa_cons (pv 1) pa_nil)))) pss_nil)
    (pss_one (ps_ret (pe_tupleOf rfl mtup (pv 2)))))), ?_⟩)
  obtain ⟨p, a, t, i, rfl, R, q1, q2⟩ := h
  obtain ⟨dx, hp⟩ := R.ins
  refine ⟨_, rfl, p, _, dx, _, _, rfl, hp, tcl T, tna T, rF_at, ?_⟩
  refine ⟨_, rfl, p, dx, _, rfl, hp, meth_none _ (by decide +kernel), p, a, t, i, _, isNam, rfl, R, .inr (.inl ⟨rfl, rfl⟩), fun H' l R' c' hl => ?_⟩
  refine ⟨_, rfl, l, _, rfl, SqL.of hl, _, rfl, ifb (fun c => ?_) fun c => ?_⟩
  · have c2 : isName (runT isNam t i) = false := by simpa using c
    refine ⟨fun vs H1 => vs = [.int 1, .int i] ∧ H1 = H', ⟨_, rfl, rfl, rfl⟩, ?_⟩
    rintro vs H1 ⟨rfl, rfl⟩
    exact ⟨_, _, rfl, fun d H2 hd he s5 => ((q2 c2).from c' R'.there) d H2 hd he (Same.chg s5)⟩
  · have c2 : isName (runT isNam t i) = true := by simpa using c
    refine ⟨_, rfl, .inl ⟨l, _, rfl, SqL.of hl, fun u nu => ?_⟩⟩
    have s5 := same_new (H := H') (o := .tup (vT (runT isNam t i))) nu
    exact q1 c2 _ u (R'.same s5) (c'.trans (Same.chg s5)) (c'.fresh R'.there nu) upd_same
/-! ### take_number -/
def numFin (neg : Bool) (j : Nat) (r : List Nat) : Except Nat (Int × Nat) :=
  if r = [] ∨ (r.head? = some 48 ∧ (1 < r.length ∨ neg = true)) then .error 1
  else if 19 < r.length then .error 3
  else if (if neg = true then 0 - numT r else numT r) < -9223372036854775808 ∨ 9223372036854775807 < (if neg = true then 0 - numT r else numT r) then .error 3 else .ok (if neg = true then 0 - numT r else numT r, j + r.length)
def numJ (t : List Nat) (i : Nat) : Nat := if decide (signZ t i = 45) = true then i + 1 else i
def numRes (t : List Nat) (i : Nat) : Except Nat (Int × Nat) := numFin (decide (signZ t i = 45)) (numJ t i) (runT isDig t (numJ t i))
def spNum (K : PySem.W.Frag) : Sp := fun vs H Q E => ∃ (p a : Addr) (t : List Nat) (i : Nat), vs = [.ref p] ∧ RdAt K H p a t i ∧
  (∀ z j, numRes t i = .ok (z, j) → ∀ H' l, RdAt K H' p a t j → Chg p H H' → H l = none → H' l = some (.tup [.int 0, .int z]) → Q (.ref l) H') ∧
  (∀ k, numRes t i = .error k → Flt K p k i H E)
theorem sc_R_take_number : FnScope ["self", "place", "negative", "run", "found"] ["self"] (defScope s_R_take_number) := ⟨rfl, rfl, rfl, by decide +kernel, rfl, by decide +kernel, by decide +kernel⟩
theorem ok_R_take_number (T : Txt K mg) : DefOk P w K mg base (L2.CX P w) 6 (He.ma K (CR K) "take_number") ["self"] (spNum K) := by
  obtain ⟨fd, F⟩ := dT T defsA (.inl rfl) 17 rfl
  refine ⟨fd, ?_, bind1 F fun _ _ _ _ _ _ _ => rfl, F.kp⟩
  have mlen := T.free "len" (by decide +kernel)
  have nd := sc_R_take_number.nd
  refine F.okX sc_R_take_number (fun vs H Q E h => by obtain ⟨p, a, t, i, rfl, _⟩ := h; rfl) (fun cdv A outer s H vs Q E hr h => ⟨_,
    pss_cons (ps_set (i := 1) nd rfl (.inl rfl) (pe_fld (pv 0) rfl))
    (pss_cons (ps_set (i := 2) nd rfl (.inl rfl) (pmeth (ok_R_stands T) (pv 0) (tcl T) (tm T "stands" (by decide +kernel)) (hr.mono (by decide)) pass0 (pa_cons pe_str pa_nil)))
    (pss_cons (ps_join (ps_if (pt_val (pv 2)) (pss_one (ps_fldaug (pv 0) pe_int in_add)) pss_nil))
    (pss_cons (ps_set (i := 3) nd rfl (.inl rfl) (pmeth (ok_R_run T) (pv 0) (tcl T) (tm T "run" (by decide +kernel)) (hr.mono (by decide)) pass0 (pa_cons (pgr (T.glo "is_digit" (by decide +kernel))) pa_nil)))
    (pss_cons (ps_join (ps_if (PW.pt (pw_or (pt_cmpR (op_eqNil hr.units0) (pv 3) (pe_lst pa_nil) (nomark _)) (pw_or1 (PW.pt (pw_and (pt_cmpR op_eq (pe_ix ix_list (pv 3) pe_int (fun _ _ => rfl)) pe_int (nomark _))
        (pw_and1 (PW.pt (pw_or (pt_cmpR op_gt (pe_callB call_len_seq rfl mlen PySem.boot_len (pa_cons (pv 3) pa_nil)) pe_int (nomark _)) (pw_or1 (pt_val (pv 2)))))))))))
      (pss_one (ps_fault rfl (takes_of rfl rfl rfl rfl) T (hr.mono (by decide)) (pa_cons (pgi (T.int ("WRONG", 1) (by decide +kernel))) (pa_cons (pv 1) pa_nil)))) pss_nil))
    (pss_cons (ps_if (pt_cmpR op_gt (pe_callB call_len_seq rfl mlen PySem.boot_len (pa_cons (pv 3) pa_nil)) (pgi (T.int ("MOST_DIGITS", 19) (by decide +kernel))) (nomark _))
      (pss_one (ps_fault rfl (takes_of rfl rfl rfl rfl) T (hr.mono (by decide)) (pa_cons (pgi (T.int ("BEYOND", 3) (by decide +kernel))) (pa_cons (pv 1) pa_nil)))) pss_nil)
    (pss_cons (ps_set (i := 4) nd rfl (.inl rfl) (pcall (ok_number_told T) (hr.mono (by decide)) (T.glo "number_told" (by decide +kernel)) pass0 (pa_cons (pv 3) pa_nil)))
    (pss_cons (ps_join (ps_if (pt_val (pv 2)) (pss_one (ps_set (i := 4) nd rfl (.inl rfl) (pe_op op_sub pe_int (pv 4)))) pss_nil))
    (pss_cons (ps_join (ps_if (PW.pt (pw_or (pt_cmpR op_lt (pv 4) (pgi (T.int ("LEAST", -9223372036854775808) (by decide +kernel))) (nomark _)) (pw_or1 (pt_cmpR op_gt (pv 4) (pgi (T.int ("MOST", 9223372036854775807) (by decide +kernel))) (nomark _)))))
      (pss_one (ps_fault rfl (takes_of rfl rfl rfl rfl) T (hr.mono (by decide)) (pa_cons (pgi (T.int ("BEYOND", 3) (by decide +kernel))) (pa_cons (pv 1) pa_nil)))) pss_nil))
    (pss_one (ps_ret (pe_tup (pa_cons (pgi (T.int ("NUMBER", 0) (by decide +kernel))) (pa_cons (pv 4) pa_nil))))))))))))), ?_⟩)
  obtain ⟨p, a, t, i, rfl, R, q1, q2⟩ := h
  obtain ⟨dx, hp⟩ := R.ins
  -- a fault, from any heap behind
  have flt : ∀ (k : Nat) (H1 : Hp), numRes t i = .error k → Chg p H H1 → (∃ o, H1 p = some o) → ∀ (D : Ends) (σ : L2.St), σ[1]? = some (some (.int i)) → ∀ te : TE, (∀ Q : VK, Q (.int k) H1 → te σ H1 Q) →
      tErr (CF K) "kind" "place" (fun cls d _ H => E cls d H) (tCons te (tCons (tVar 1) tNil)) D σ H1 := by
    intro k H1 hk c1 hs D σ hσ te hte
    refine ⟨fun vs H2 => vs = [.int k, .int i] ∧ H2 = H1, hte _ ⟨_, hσ, rfl, rfl⟩, ?_⟩
    rintro vs H2 ⟨rfl, rfl⟩
    exact ⟨_, _, rfl, fun d H' hd he s5 => ((q2 k hk).from c1 hs) d H' hd he (Same.chg s5)⟩
  refine ⟨_, rfl, p, _, dx, _, _, rfl, hp, tcl T, tna T, rF_at, ?_⟩
  refine ⟨_, rfl, p, dx, _, rfl, hp, meth_none _ (by decide +kernel), p, a, t, i, "-", 45, rfl, rfl, rfl, R, ?_⟩
  refine ⟨fun σ' H1 => σ' = [some (.ref p), some (.int i), some (.bl (decide (signZ t i = 45))), none, none] ∧ RdAt K H1 p a t (numJ t i) ∧ Chg p H H1, ?_, ?_⟩
  · refine ⟨_, rfl, _, rfl, ifb (fun c => ?_) fun c => ?_⟩
    · have c' : signZ t i = 45 := of_decide_eq_true c
      have hlt : i < t.length := signZ_in (c := 45) c'
      refine ⟨_, rfl, p, _, dx, _, _, rfl, hp, tcl T, tna T, rF_at, _, _, rfl, rfl, dx, _, hp, (by show 2 < 1000; decide), rfl, ?_, chg_upd⟩
      unfold numJ
      rw [if_pos (decide_eq_true c')]
      refine R.chg chg_upd ⟨dx, ?_⟩ (by omega)
      rw [upd_same, rF_put (j := i + 1) (by omega)]
    · have c' : ¬ signZ t i = 45 := of_decide_eq_false c
      refine ⟨rfl, ?_, fun b o e _ => e⟩
      unfold numJ
      rw [if_neg (by simpa using c')]
      exact R
  · rintro σ' H1 ⟨rfl, R1, c1⟩
    obtain ⟨dx1, hp1⟩ := R1.ins
    unfold numRes at q1 q2 flt
    generalize decide (signZ t i = 45) = neg at *
    generalize numJ t i = j at *
    refine ⟨_, rfl, p, dx1, _, rfl, hp1, meth_none _ (by decide +kernel), p, a, t, j, _, isDig, rfl, R1, .inl ⟨rfl, rfl⟩, fun H2 l R2 c2 hl => ?_⟩
    have c12 := c1.trans c2
    generalize runT isDig t j = r at *
    have hS := SqL.of (K := K) hl
    have elr : ((vT r).length : Int) = r.length := by rw [List.length_map]
    -- the run may stand
    refine ⟨fun σ' H3 => σ' = [some (.ref p), some (.int i), some (.bl neg), some (.ref l), none] ∧ RdAt K H3 p a t (j + r.length) ∧ Chg p H H3 ∧ SqL K H3 l (vT r) ∧ ¬ (r = [] ∨ (r.head? = some 48 ∧ (1 < r.length ∨ neg = true))), ?_, ?_⟩
    · refine ⟨_, rfl, (by decide), fun e he => ?_⟩
      have s3 := same_new (H := H2) (o := .lst []) he
      have R3 := R2.same s3
      have c3 : Chg p H (upd H2 e (.lst [])) := c12.trans (Same.chg s3)
      have hS3 := s3.seq hS
      have bad : (r = [] ∨ (r.head? = some 48 ∧ (1 < r.length ∨ neg = true))) → ∀ D : Ends, tErr (CF K) "kind" "place" (fun cls d _ H => E cls d H) (tCons (tC (.int 1)) (tCons (tVar 1) tNil)) D [some (.ref p), some (.int i), some (.bl neg), some (.ref l), none] (upd H2 e (.lst [])) := fun z D =>
        flt 1 _ (by unfold numFin; rw [if_pos z]) c3 R3.there _ _ rfl _ fun Q q => q
      refine ⟨l, e, _, rfl, rfl, hS3, .inl (.inl upd_same), _, rfl, ifb (fun x1 => ?_) fun x1 => ?_⟩
      · refine ifT rfl (bad (.inl (by simpa using x1)) _)
      · have hne : r ≠ [] := by simpa using x1
        obtain ⟨x, r', rfl⟩ : ∃ x r', r = x :: r' := by
          cases r with
          | nil => exact absurd rfl hne
          | cons x r' => exact ⟨x, r', rfl⟩
        refine ⟨_, rfl, l, _, 0, .int x, rfl, rfl, hS3, atI_nat (j := 0) rfl, rfl, _, rfl, ifb (fun x2 => ?_) fun x2 => ?_⟩
        · rw [dec_int, ← dib] at x2
          have x2' : x = 48 := by have := of_decide_eq_true x2; omega
          refine ⟨_, rfl, l, _, rfl, .inl hS3, _, _, rfl, rfl, _, rfl, ifb (fun x3 => ?_) fun x3 => ?_⟩
          · rw [elr] at x3
            exact ifT rfl (bad (.inr ⟨by rw [x2']; rfl, .inl (by have := of_decide_eq_true x3; omega)⟩) _)
          · rw [elr] at x3
            refine ⟨_, rfl, _, rfl, ifb (fun x4 => ?_) fun x4 => ?_⟩
            · exact bad (.inr ⟨by rw [x2']; rfl, .inr x4⟩) _
            · refine ⟨rfl, R3, c3, hS3, fun z => ?_⟩
              rcases z with z | ⟨_, z | z⟩
              · cases z
              · have := of_decide_eq_false x3
                omega
              · rw [x4] at z
                cases z
        · rw [dec_int, ← dib] at x2
          have x2' : ¬ x = 48 := by have := of_decide_eq_false x2; omega
          refine ifF rfl ⟨rfl, R3, c3, hS3, fun z => ?_⟩
          rcases z with z | ⟨z, _⟩
          · cases z
          · exact x2' (Option.some.inj z)
    · rintro σ' H3 ⟨rfl, R3, c3, hS3, good⟩
      unfold numFin at q1 flt
      rw [if_neg good] at q1 flt
      refine ⟨_, rfl, l, _, rfl, .inl hS3, _, _, rfl, rfl, _, rfl, ifb (fun x1 => ?_) fun x1 => ?_⟩
      · rw [elr] at x1
        have := of_decide_eq_true x1
        exact flt 3 _ (by rw [if_pos (by omega)]) c3 R3.there _ _ rfl _ fun Q q => q
      · rw [elr] at x1
        have := of_decide_eq_false x1
        rw [if_neg (by omega)] at q1 flt
        refine ⟨_, rfl, l, r, rfl, hS3, ?_⟩
        -- the number
        refine ⟨fun σ' H4 => H4 = H3 ∧ σ' = [some (.ref p), some (.int i), some (.bl neg), some (.ref l), some (.int (if neg = true then 0 - numT r else numT r))], ?_, ?_⟩
        · refine ⟨_, rfl, _, rfl, ifb (fun x2 => ?_) fun x2 => ?_⟩
          · refine ⟨_, rfl, _, _, rfl, rfl, rfl, ?_⟩
            rw [if_pos x2]
            rfl
          · refine ⟨rfl, ?_⟩
            rw [x2, if_neg (by decide)]
            rfl
        · rintro σ' H4 ⟨rfl, rfl⟩
          generalize (if neg = true then 0 - numT r else numT r) = z at *
          refine ⟨fun σ' H5 => H5 = H4 ∧ σ' = [some (.ref p), some (.int i), some (.bl neg), some (.ref l), some (.int z)] ∧ ¬ (z < -9223372036854775808 ∨ 9223372036854775807 < z), ?_, ?_⟩
          · have bad : (z < -9223372036854775808 ∨ 9223372036854775807 < z) → ∀ D : Ends, tErr (CF K) "kind" "place" (fun cls d _ H => E cls d H) (tCons (tC (.int 3)) (tCons (tVar 1) tNil)) D [some (.ref p), some (.int i), some (.bl neg), some (.ref l), some (.int z)] H4 := fun x D =>
              flt 3 _ (by rw [if_pos x]) c3 R3.there _ _ rfl _ fun Q q => q
            refine ⟨_, rfl, _, _, rfl, rfl, _, rfl, ifb (fun x2 => ?_) fun x2 => ?_⟩
            · exact ifT rfl (bad (.inl (of_decide_eq_true x2)) _)
            · refine ⟨_, rfl, _, _, rfl, rfl, _, rfl, ifb (fun x3 => ?_) fun x3 => ?_⟩
              · exact bad (.inr (of_decide_eq_true x3)) _
              · exact ⟨rfl, rfl, fun x => x.elim (of_decide_eq_false x2) (of_decide_eq_false x3)⟩
          · rintro σ' H5 ⟨e5, rfl, x⟩
            rw [e5]
            rw [if_neg x] at q1
            refine ⟨_, rfl, (by show 2 ≤ sizeLine; decide), fun u nu => ?_⟩
            have s5 := same_new (H := H4) (o := .tup [.int 0, .int z]) nu
            exact q1 z _ rfl _ u (R3.same s5) (c3.trans (Same.chg s5)) (c3.fresh R3.there nu) upd_same
end SF
end -- F5

section -- F6
set_option Elab.async false
set_option linter.all false
set_option maxRecDepth 100000
set_option maxHeartbeats 2000000
/-! # F6: string -/
namespace SF
open PySem PySem.Spec PyProof.Rows L2
open LamX (CodeO TabS ExtN TabB)
variable {P : Program} {w : World} {K : PySem.W.Frag} {mg : Str → Option Value} {base : Heap}
/-! ### heaps whose tables of code objects may grow -/
abbrev dStr : He.Defn := ("Reader", some "string")
/-- the table of string's own code objects -/
abbrev Pt (K : PySem.W.Frag) : Addr := (He.cT K dStr).2
abbrev Tb (K : PySem.W.Frag) (H : Hp) : Prop := TabS H (Pt K) lamQ
/-- all tracked stands but the object at p and the table -/
def ChgT (K : PySem.W.Frag) (p : Addr) (H H' : Hp) : Prop := ∀ b o, H b = some o → b ≠ p → b ≠ Pt K → H' b = some o
theorem Chg.t {p : Addr} {H H' : Hp} (c : Chg p H H') : ChgT K p H H' := fun b o e n _ => c b o e n
theorem ChgT.trans {p : Addr} {H H1 H2 : Hp} (a : ChgT K p H H1) (b : ChgT K p H1 H2) : ChgT K p H H2 := fun c o e n t => b c o (a c o e n t) n t
theorem ChgT.refl {p : Addr} {H : Hp} : ChgT K p H H := fun _ _ e _ _ => e
theorem Tb.chg {p : Addr} {H H' : Hp} (t : Tb K H) (c : Chg p H H') (hp : ∃ C dx fs, H p = some (.ins C dx fs)) : Tb K H' := by
  obtain ⟨C, dx, fs, hp⟩ := hp
  obtain ⟨ps, h1, h2, h3⟩ := t
  refine ⟨ps, c _ _ h1 (ne_of h1 hp (by intro z; cases z)), h2, fun pos cv h => ?_⟩
  obtain ⟨c', e1, e2⟩ := h3 pos cv h
  exact ⟨c', e1, c _ _ e2 (ne_of e2 hp codeO_ins)⟩
theorem RdAt.insx {H : Hp} {p a : Addr} {t : List Nat} {i : Nat} (R : RdAt K H p a t i) : ∃ C dx fs, H p = some (.ins C dx fs) := let ⟨_, e⟩ := R.ins; ⟨_, _, _, e⟩
theorem seq_chgT {H H' : Hp} {a p : Addr} {xs : List V} (hS : SqL K H a xs) (t : Tb K H) (k : ChgT K p H H') (hp : ∃ C dx fs, H p = some (.ins C dx fs)) : SqL K H' a xs := by
  obtain ⟨C, dx, fs, hp⟩ := hp
  obtain ⟨ps, ht, _⟩ := t
  rcases hS with (h | ⟨o, h⟩) | h
  · exact .inl (.inl (k a _ h (ne_of h hp (by intro z; cases z)) (ne_of h ht (by intro z; cases z))))
  · exact .inl (.inr ⟨o, k a _ h (ne_of h hp (by intro z; cases z)) (ne_of h ht (by intro z; cases z))⟩)
  · exact .inr h
theorem RdAt.chgT {H H' : Hp} {p a : Addr} {t : List Nat} {i j : Nat} (R : RdAt K H p a t i) (tb : Tb K H) (c : ChgT K p H H') (hi : ∃ dx, H' p = some (.ins (CR K) dx (rF a j))) (hj : j ≤ t.length) : RdAt K H' p a t j :=
  ⟨hi, seq_chgT R.txt tb c R.insx, hj⟩
theorem ChgT.fresh {p : Addr} {H H1 : Hp} (c : ChgT K p H H1) (hp : ∃ o, H1 p = some o) (ht1 : Tb K H1) {d : Addr} (h : H1 d = none) : H d = none := by
  cases e : H d with
  | none => rfl
  | some o =>
    by_cases z : d = p
    · obtain ⟨u, hu⟩ := hp
      rw [z, hu] at h
      cases h
    · by_cases zt : d = Pt K
      · obtain ⟨ps1, h1, _⟩ := ht1
        rw [zt, h1] at h
        cases h
      · rw [c d o e z zt] at h
        cases h
/-- a fault of the kind k at the place i is raised; the table may have grown -/
def FltT (K : PySem.W.Frag) (p : Addr) (k i : Nat) (H : Hp) (E : XK) : Prop := ∀ d H', H d = none → H' d = some (errO "kind" "place" (.int k) (.int i)) → ChgT K p H H' → Tb K H' → E (.ref (CF K)) (some d) H'
theorem FltT.from {p : Addr} {k i : Nat} {H H1 : Hp} {E : XK} (h : FltT K p k i H E) (c : ChgT K p H H1) (hp : ∃ o, H1 p = some o) (t1 : Tb K H1) : FltT K p k i H1 E := fun d H' hd e c2 t2 => h d H' (c.fresh hp t1 hd) e (c.trans c2) t2
theorem FltT.flt {p : Addr} {k i : Nat} {H : Hp} {E : XK} (h : FltT K p k i H E) (t : Tb K H) (hp : ∃ C dx fs, H p = some (.ins C dx fs)) : Flt K p k i H E := fun d H' hd e c => h d H' hd e c.t (t.chg c hp)
/-! ### string -/
def strRes (t : List Nat) (i : Nat) : Except Nat (Nat × Nat) :=
  match t[i + 1 + (runT notQ t (i + 1)).length]? with
  | none => .error 1
  | some _ => match cq (runT notQ t (i + 1)) with
    | none => .error 1
    | some n => if 999 < n then .error 3 else .ok (n, i + 1 + (runT notQ t (i + 1)).length + 1)
def spStr (K : PySem.W.Frag) : Sp := fun vs H Q E => ∃ (p a : Addr) (t : List Nat) (i : Nat), vs = [.ref p] ∧ RdAt K H p a t i ∧ Tb K H ∧ i < t.length ∧ t.length ≤ 5000 ∧
  (∀ n j, strRes t i = .ok (n, j) → ∀ H' l, RdAt K H' p a t j → ChgT K p H H' → Tb K H' → H l = none → H' l = some (.tup [.int 1, .int n]) → Q (.ref l) H') ∧
  (∀ k, strRes t i = .error k → FltT K p k i H E)
theorem sc_R_string : FnScope ["self", "place", "inner", "many"] ["self"] (defScope s_R_string) := ⟨rfl, rfl, rfl, by decide +kernel, rfl, by decide +kernel, by decide +kernel⟩
theorem ok_R_string (T : Txt K mg) (TB : TabB base mg (He.cT K dStr).1 (He.cT K dStr).2) : DefOk P w K mg base (L2.CX P w) 6 (He.ma K (CR K) "string") ["self"] (spStr K) := by
  obtain ⟨fd, F⟩ := dT T defsA (.inl rfl) 18 rfl
  refine ⟨fd, ?_, bind1 F fun _ _ _ _ _ _ _ => rfl, F.kp⟩
  have nd := sc_R_string.nd
  obtain ⟨oc, od, kV, doc, pm, an, cdv, ct, osl, rfl, lk, hcd⟩ := F.ex
  obtain ⟨c0, rfl⟩ := He.codeIn_ref hcd
  have ec : (He.cT K dStr).1 = c0 := He.codeOf_eq (p := dStr) lk rfl
  rw [ec] at TB
  refine fn_of lk hcd sc_R_string (fun vs H Q E h => by obtain ⟨p, a, t, i, rfl, _⟩ := h; rfl) (fun A outer s H vs Q E hr h => ⟨_,
    (pss_cons (ps_set (i := 1) nd rfl (.inl rfl) (pe_fld (pv 0) rfl))
    (pss_cons (ps_fldaug (pv 0) pe_int in_add)
    (pss_cons (ps_set (i := 2) nd rfl (.inl rfl) (pmeth (ok_R_run T) (pv 0) (tcl T) (tm T "run" (by decide +kernel)) (hr.mono (by decide)) pass0 (pa_cons (pe_lam (q := lamQ) (params := lamP) (body := lamB) (scope := lamSc) TB rfl (by show (("Reader.string" : Str) ++ ".<locals>.") ++ "<lambda>" = lamQ; decide +kernel) rfl (by decide +kernel)) pa_nil)))
    (pss_cons (ps_if (pt_cmpR op_eq (pmeth0 (ok_R_sign T) (pv 0) (tcl T) (tm T "sign" (by decide +kernel)) (hr.mono (by decide)) pass0) (pe_un un_neg pe_int) (nomark _))
      (pss_one (ps_fault rfl (takes_of rfl rfl rfl rfl) T (hr.mono (by decide)) (pa_cons (pgi (T.int ("WRONG", 1) (by decide +kernel))) (pa_cons (pv 1) pa_nil)))) pss_nil)
    (pss_cons (ps_fldaug (pv 0) pe_int in_add)
    (pss_cons (ps_set (i := 3) nd rfl (.inl rfl) (pcall (ok_bytes_in T) (hr.mono (by decide)) (T.glo "bytes_in" (by decide +kernel)) pass0 (pa_cons (pv 2) pa_nil)))
    (pss_cons (ps_if (pt_cmpR op_lt (pv 3) pe_int (nomark _))
      (pss_one (ps_fault rfl (takes_of rfl rfl rfl rfl) T (hr.mono (by decide)) (pa_cons (pgi (T.int ("WRONG", 1) (by decide +kernel))) (pa_cons (pv 1) pa_nil)))) pss_nil)
    (pss_cons (ps_if (pt_cmpR op_gt (pv 3) (pgi (T.int ("MOST_BYTES", 999) (by decide +kernel))) (nomark _))
      (pss_one (ps_fault rfl (takes_of rfl rfl rfl rfl) T (hr.mono (by decide)) (pa_cons (pgi (T.int ("BEYOND", 3) (by decide +kernel))) (pa_cons (pv 1) pa_nil)))) pss_nil)
    (pss_one (ps_ret (pe_tup (pa_cons (pgi (T.int ("TEXT", 1) (by decide +kernel))) (pa_cons (pv 3) pa_nil))))))))))))), ?_⟩)
  obtain ⟨p, a, t, i, rfl, R, tb, hi, hlen, q1, q2⟩ := h
  obtain ⟨dx, hp⟩ := R.ins
  have flt : ∀ (k : Nat) (H1 : Hp), strRes t i = .error k → ChgT K p H H1 → (∃ o, H1 p = some o) → Tb K H1 → (∃ C dx fs, H1 p = some (.ins C dx fs)) → ∀ (D : Ends) (σ : L2.St), σ[1]? = some (some (.int i)) → ∀ te : TE, (∀ Q : VK, Q (.int k) H1 → te σ H1 Q) →
      tErr (CF K) "kind" "place" (fun cls d _ H => E cls d H) (tCons te (tCons (tVar 1) tNil)) D σ H1 := by
    intro k H1 hk c1 hs t1 hx D σ hσ te hte
    refine ⟨fun vs H2 => vs = [.int k, .int i] ∧ H2 = H1, hte _ ⟨_, hσ, rfl, rfl⟩, ?_⟩
    rintro vs H2 ⟨rfl, rfl⟩
    exact ⟨_, _, rfl, fun d H' hd he s5 => ((q2 k hk).from c1 hs t1) d H' hd he (Same.chg (p := p) s5).t (t1.chg (Same.chg (p := p) s5) hx)⟩
  refine ⟨_, rfl, p, _, dx, _, _, rfl, hp, tcl T, tna T, rF_at, ?_⟩
  refine ⟨_, rfl, p, _, dx, _, _, rfl, hp, tcl T, tna T, rF_at, _, _, rfl, rfl, dx, _, hp, (by show 2 < 1000; decide), ?_⟩
  have R1 : RdAt K (upd H p (.ins (CR K) dx (putF "at" (.int ((i : Int) + 1)) (rF a i)))) p a t (i + 1) := by
    refine R.chg chg_upd ⟨dx, ?_⟩ (by omega)
    rw [upd_same, rF_put (j := i + 1) (by omega)]
  have c1 : Chg p H (upd H p (.ins (CR K) dx (putF "at" (.int ((i : Int) + 1)) (rF a i)))) := chg_upd
  have t1 := tb.chg c1 R.insx
  generalize upd H p (.ins (CR K) dx (putF "at" (.int ((i : Int) + 1)) (rF a i))) = H1 at *
  obtain ⟨dx1, hp1⟩ := R1.ins
  refine ⟨_, rfl, p, dx1, _, rfl, hp1, meth_none _ (by decide +kernel), t1, fun f c H2 nf k2 t2 hf hc => ?_⟩
  have c2 : ChgT K p H1 H2 := fun b o e _ n => k2 b o e n
  have R2 : RdAt K H2 p a t (i + 1) := R1.chgT t1 c2 ⟨dx1, k2 _ _ hp1 (by
    obtain ⟨ps, ht, _⟩ := t1
    exact ne_of hp1 ht (by intro z; cases z))⟩ R1.le
  refine ⟨p, a, t, i + 1, f, notQ, rfl, R2, .inr (.inr ⟨⟨c, hf, hc⟩, rfl⟩), fun H3 l R3 c3 hl => ?_⟩
  replace R3 : RdAt K H3 p a t (i + 1 + (runT notQ t (i + 1)).length) := R3
  have t3 := (show Tb K H2 from t2).chg c3 R2.insx
  have c13 : ChgT K p H H3 := (c1.t.trans c2).trans c3.t
  obtain ⟨dx3, hp3⟩ := R3.ins
  refine ⟨_, rfl, p, dx3, _, rfl, hp3, meth_none _ (by decide +kernel), p, a, t, _, rfl, R3, _, rfl, rfl, _, rfl, ifb (fun x => ?_) fun x => ?_⟩
  · rw [dec_int, ← dib] at x
    have x' := of_decide_eq_true x
    have e : strRes t i = .error 1 := by
      unfold strRes
      unfold signZ at x'
      split at x'
      · omega
      · rename_i e0
        rw [e0]
    exact flt 1 _ e c13 R3.there t3 R3.insx _ _ rfl _ fun Q q => q
  · rw [dec_int, ← dib] at x
    have x' := of_decide_eq_false x
    obtain ⟨y, hy⟩ : ∃ y, t[i + 1 + (runT notQ t (i + 1)).length]? = some y := by
      unfold signZ at x'
      split at x'
      · exact ⟨_, by assumption⟩
      · exact absurd rfl x'
    have hlt := (List.getElem?_eq_some_iff.mp hy).1
    have er : strRes t i = match cq (runT notQ t (i + 1)) with
      | none => .error 1
      | some n => if 999 < n then .error 3 else .ok (n, i + 1 + (runT notQ t (i + 1)).length + 1) := by
      unfold strRes
      rw [hy]
    refine ⟨_, rfl, p, _, dx3, _, _, rfl, hp3, tcl T, tna T, rF_at, _, _, rfl, rfl, dx3, _, hp3, (by show 2 < 1000; decide), ?_⟩
    generalize hr' : runT notQ t (i + 1) = r at *
    have R4 : RdAt K (upd H3 p (.ins (CR K) dx3 (putF "at" (.int (((i + 1 + r.length : Nat) : Int) + 1)) (rF a (i + 1 + r.length))))) p a t (i + 1 + r.length + 1) := by
      refine R3.chg chg_upd ⟨dx3, ?_⟩ (by omega)
      rw [upd_same, rF_put (j := i + 1 + r.length + 1) (by omega)]
    have c4 : Chg p H3 (upd H3 p (.ins (CR K) dx3 (putF "at" (.int (((i + 1 + r.length : Nat) : Int) + 1)) (rF a (i + 1 + r.length))))) := chg_upd
    have hl4 := c4 _ _ hl (ne_of hl hp3 (by intro z; cases z))
    generalize upd H3 p (.ins (CR K) dx3 (putF "at" (.int (((i + 1 + r.length : Nat) : Int) + 1)) (rF a (i + 1 + r.length)))) = H4 at *
    have t4 := t3.chg c4 R3.insx
    have c14 := c13.trans c4.t
    refine ⟨_, rfl, l, r, rfl, SqL.of hl4, ?_, fun H5 s5 => ?_⟩
    · rw [← hr']
      have := runT_le notQ t (i + 1)
      omega
    have R5 := R4.same s5
    have c15 := c14.trans (Same.chg (p := p) s5).t
    have t5 := t4.chg (Same.chg (p := p) s5) R4.insx
    unfold bytesIn
    have ecq : countQ r.length r = cq r := rfl
    rw [ecq]
    cases hq : cq r with
    | none =>
      rw [hq] at er
      refine ⟨_, rfl, _, _, rfl, rfl, _, rfl, ifT rfl ?_⟩
      exact flt 1 _ er c15 R5.there t5 R5.insx _ _ rfl _ fun Q q => q
    | some n =>
      rw [hq] at er
      refine ⟨_, rfl, _, _, rfl, rfl, _, rfl, ifF (decide_eq_false (by show ¬ ((n : Int) < 0); omega)) ?_⟩
      refine ⟨_, rfl, _, _, rfl, rfl, _, rfl, ifb (fun x => ?_) fun x => ?_⟩
      · have x' : (999 : Int) < n := of_decide_eq_true x
        dsimp only at er
        rw [if_pos (by omega)] at er
        exact flt 3 _ er c15 R5.there t5 R5.insx _ _ rfl _ fun Q q => q
      · have x' : ¬ (999 : Int) < n := of_decide_eq_false x
        dsimp only at er
        rw [if_neg (by omega)] at er
        refine ⟨_, rfl, (by show 2 ≤ sizeLine; decide), fun u nu => ?_⟩
        have s6 := same_new (H := H5) (o := .tup [.int 1, .int n]) nu
        exact q1 n _ er _ u (R5.same s6) (c15.trans (Same.chg (p := p) s6).t) (t5.chg (Same.chg (p := p) s6) R5.insx) (c15.fresh R5.there t5 nu) upd_same
end SF
end -- F6

section -- G1
set_option Elab.async false
set_option linter.all false
set_option maxRecDepth 100000
set_option maxHeartbeats 2000000
/-! # G1: what the walks of reading give is what the specification's reader gives -/
namespace SF
open Vacola (Text Fault faultAt isDigit isLow nameSign goodName digitRun readQuoted worth plain hexOf)
open Vacolb (expect)
open Vacolo (Loose readNum readName LOW HIGH LONGEST DEEP)
theorem dig_eq (c : Nat) : isDig (c : Int) = isDigit c := by
  unfold isDig isDigit
  congr 1 <;> exact decide_eq_decide.mpr (by omega)
theorem let_eq (c : Nat) : isLet (c : Int) = isLow c := by
  unfold isLet isLow
  congr 1 <;> exact decide_eq_decide.mpr (by omega)
theorem nam_eq (c : Nat) : isNam (c : Int) = nameSign c := by
  unfold isNam nameSign
  rw [dig_eq, let_eq, Bool.or_assoc]
  congr 2
  rw [dib]
  cases h : c == 95 with
  | true => 
    have : c = 95 := by simpa using h
    subst this
    rfl
  | false =>
    have : ¬ c = 95 := by simpa using h
    simp
    omega
theorem pla_eq (c : Nat) : isPla (c : Int) = plain c := by
  unfold isPla plain
  rw [Bool.and_assoc, Bool.and_assoc]
  congr 1
  · exact decide_eq_decide.mpr (by omega)
  congr 1
  · exact decide_eq_decide.mpr (by omega)
  congr 1
  · by_cases h : c = 34
    · subst h; rfl
    · have : (c != 34) = true := by simpa using h
      rw [this]
      simp
      omega
  · by_cases h : c = 92
    · subst h; rfl
    · have : (c != 92) = true := by simpa using h
      rw [this]
      simp
      omega
theorem runT_eq {g : Int → Bool} {q : Nat → Bool} (h : ∀ c : Nat, g c = q c) (t : List Nat) (i : Nat) : runT g t i = (t.drop i).takeWhile q := by
  unfold runT
  congr 1
  funext c
  exact h c
theorem drop_run (q : Nat → Bool) : ∀ l : List Nat, l.dropWhile q = l.drop (l.takeWhile q).length
  | [] => rfl
  | c :: l => by
    by_cases h : q c = true
    · rw [List.dropWhile_cons_of_pos h, List.takeWhile_cons_of_pos h, List.length_cons, List.drop_succ_cons]
      exact drop_run q l
    · rw [List.dropWhile_cons_of_neg h, List.takeWhile_cons_of_neg h]
      rfl
/-! ### signs -/
theorem signZ_head {t : List Nat} {i : Nat} {c : Nat} : signZ t i = c ↔ (t.drop i).head? = some c := by
  unfold signZ
  rw [List.head?_drop]
  cases t[i]? with
  | none =>
    constructor
    · intro h
      have h' : (-1 : Int) = c := h
      omega
    · intro h; cases h
  | some x =>
    constructor
    · intro h
      have h' : (x : Int) = c := h
      congr 1
      omega
    · intro h; cases h; rfl
/-! ### numbers -/
theorem numT_worth (t : List Nat) (h : ∀ c ∈ t, isDigit c = true) : numT t = (worth t : Int) := by
  unfold numT worth
  have key : ∀ (l : List Nat) (a : Int) (b : Nat), (∀ c ∈ l, isDigit c = true) → a = b → l.foldl (fun (n : Int) (c : Nat) => 10 * n + (c : Int) - 48) a = ((l.foldl (fun n c => 10 * n + (c - 48)) b : Nat) : Int) := by
    intro l
    induction l with
    | nil => intro a b _ e; exact e
    | cons c r ih =>
      intro a b hl e
      simp only [List.foldl_cons]
      refine ih _ _ (fun x hx => hl x (List.mem_cons_of_mem _ hx)) ?_
      have := digit_iff.mp (hl c (List.mem_cons_self ..))
      rw [e]
      omega
  exact key t 0 0 h rfl
theorem worth_big : ∀ (t : List Nat) (c : Nat), 49 ≤ c → 10 ^ t.length ≤ worth (c :: t) := by
  intro t c hc
  unfold worth
  have key : ∀ (l : List Nat) (b : Nat), 1 ≤ b → 10 ^ l.length * b ≤ l.foldl (fun n c => 10 * n + (c - 48)) b := by
    intro l
    induction l with
    | nil => intro b _; simp
    | cons x r ih =>
      intro b hb
      simp only [List.foldl_cons, List.length_cons]
      have := ih (10 * b + (x - 48)) (by omega)
      have h2 : 10 ^ (r.length + 1) * b = 10 ^ r.length * (10 * b) := by
        rw [Nat.pow_succ, Nat.mul_assoc]
      rw [h2]
      exact Nat.le_trans (Nat.mul_le_mul_left _ (by omega)) this
  have := key t (10 * 0 + (c - 48)) (by omega)
  have h3 : 10 ^ t.length * 1 ≤ 10 ^ t.length * (10 * 0 + (c - 48)) := Nat.mul_le_mul_left _ (by omega)
  simp only [List.foldl_cons]
  omega
theorem num_is (t : List Nat) (i : Nat) (hi : i ≤ t.length) : readNum (t.drop i) = match numRes t i with
    | .ok (z, j) => .ok (.num z, t.drop j)
    | .error k => faultAt k (t.drop i) := by
  have main : ∀ (neg : Bool) (j : Nat), i ≤ j → ((t.drop i).head? == some 45) = neg → (if neg then (t.drop i).drop 1 else t.drop i) = t.drop j → readNum (t.drop i) = match numFin neg j (runT isDig t j) with
      | .ok (z, j) => .ok (.num z, t.drop j)
      | .error k => faultAt k (t.drop i) := by
    intro neg j hij hn ht
    unfold readNum
    simp only
    rw [hn, ht]
    unfold digitRun
    simp only
    have er : runT isDig t j = (t.drop j).takeWhile isDigit := runT_eq dig_eq t j
    have ed : (t.drop j).dropWhile isDigit = t.drop (j + (runT isDig t j).length) := by
      rw [drop_run, List.drop_drop, ← er]
    rw [ed, ← er]
    have hall : ∀ c ∈ runT isDig t j, isDigit c = true := by
      rw [er]
      exact takeWhile_all
    generalize runT isDig t j = r at *
    unfold numFin
    by_cases h1 : r = []
    · rw [if_pos (.inl h1), if_pos (.inl h1)]
    · obtain ⟨c, r', rfl⟩ : ∃ c r', r = c :: r' := by
        cases r with
        | nil => exact absurd rfl h1
        | cons c r' => exact ⟨c, r', rfl⟩
      by_cases h2 : c = 48
      · by_cases h3 : 1 < (c :: r').length
        · rw [if_pos (.inr ⟨by rw [h2]; rfl, h3⟩), if_pos (.inr ⟨by rw [h2]; rfl, .inl h3⟩)]
        · have e0 : r' = [] := by
            cases r' with
            | nil => rfl
            | cons a b => simp at h3
          subst e0 h2
          rw [if_neg (by simp)]
          dsimp only
          cases neg with
          | true =>
            rw [if_pos (show true = true ∧ worth [48] = 0 from ⟨rfl, rfl⟩), if_pos (.inr ⟨rfl, .inr rfl⟩)]
          | false =>
            rw [if_neg (show ¬ (false = true ∧ worth [48] = 0) from fun z => nomatch z.1), if_neg (show ¬ ([48] = [] ∨ [48].head? = some 48 ∧ (1 < [48].length ∨ false = true)) by simp), if_neg (show ¬ 19 < [48].length by decide)]
            rw [if_pos (show LOW ≤ (if false = true then -(worth [48] : Int) else (worth [48] : Int)) ∧ (if false = true then -(worth [48] : Int) else (worth [48] : Int)) ≤ HIGH by decide)]
            rfl
      · have hc := digit_iff.mp (hall c (List.mem_cons_self ..))
        have hb := worth_big r' c (by omega)
        have nh : ¬ ((c :: r').head? = some 48) := fun z => h2 (Option.some.inj z)
        rw [if_neg (by rintro (z | ⟨z, _⟩); cases z; exact nh z), if_neg (by rintro (z | ⟨z, _⟩); cases z; exact nh z)]
        have hw : numT (c :: r') = (worth (c :: r') : Int) := numT_worth _ hall
        have hpos : 0 < worth (c :: r') := worth_pos (by omega)
        dsimp only
        rw [if_neg (show ¬ (neg = true ∧ worth (c :: r') = 0) by omega), hw]
        have ez : (if neg = true then (0 : Int) - (worth (c :: r') : Int) else (worth (c :: r') : Int)) = (if neg = true then -(worth (c :: r') : Int) else (worth (c :: r') : Int)) := by
          cases neg
          · rfl
          · simp
        rw [ez]
        by_cases h4 : 19 < (c :: r').length
        · rw [if_pos h4]
          have : 10 ^ 19 ≤ worth (c :: r') := Nat.le_trans (Nat.pow_le_pow_right (by decide) (by simp at h4; omega)) hb
          rw [if_neg]
          unfold LOW HIGH
          cases neg
          · simp only [Bool.false_eq_true, if_false]
            have : (10 : Nat) ^ 19 = 10000000000000000000 := by decide
            omega
          · simp only [if_true]
            have : (10 : Nat) ^ 19 = 10000000000000000000 := by decide
            omega
        · rw [if_neg h4]
          unfold LOW HIGH
          generalize (if neg = true then -(worth (c :: r') : Int) else (worth (c :: r') : Int)) = z
          by_cases h5 : z < -9223372036854775808 ∨ 9223372036854775807 < z
          · rw [if_pos h5, if_neg (by omega)]
          · rw [if_neg h5, if_pos (by omega)]
  unfold numRes numJ
  by_cases h : signZ t i = 45
  · have h' := (signZ_head (c := 45)).mp h
    rw [decide_eq_true h, if_pos rfl]
    exact main true (i + 1) (by omega) (by rw [h']; rfl) (by rw [if_pos rfl, List.drop_drop])
  · rw [decide_eq_false h, if_neg (by decide)]
    refine main false i (Nat.le_refl _) ?_ (by rw [if_neg (by decide)])
    cases e : (t.drop i).head? with
    | none => rfl
    | some x =>
      have : x ≠ 45 := fun z => h ((signZ_head (c := 45)).mpr (by rw [e, z]))
      simpa using this
end SF
end -- G1

section -- G2
set_option Elab.async false
set_option linter.all false
set_option maxRecDepth 100000
set_option maxHeartbeats 2000000
/-! # G2: texts and names: what the walks give is what the specification's reader gives -/
namespace SF
open Vacola (Text Fault faultAt isDigit isLow nameSign goodName digitRun readQuoted worth plain hexOf)
open Vacolb (expect)
open Vacolo (Loose readNum readName LOW HIGH LONGEST DEEP)
theorem rq_nil : readQuoted [] = none := by unfold readQuoted; rfl
theorem rq_end (r : Text) : readQuoted (34 :: r) = some ([], r) := by unfold readQuoted; rfl
theorem rq_esc (a b : Nat) (r : Text) : readQuoted (92 :: a :: b :: r) = match hexOf a, hexOf b with
    | some x, some y => if plain (16 * x + y) then none else (readQuoted r).map fun z => ((16 * x + y) :: z.1, z.2)
    | _, _ => none := by
  rw [readQuoted]
  rfl
theorem rq_else {c : Nat} {r : Text} (h : c ≠ 34) (h2 : c ≠ 92) : readQuoted (c :: r) = if plain c then (readQuoted r).map fun z => (c :: z.1, z.2) else none := by
  rw [readQuoted]
  · exact h
  · intro a b u e
    exact absurd e h2
theorem rq_short1 : readQuoted [92] = none := by
  rw [readQuoted]
  · rfl
  · decide
  · intro a b u _ e; cases e
theorem rq_short2 (a : Nat) : readQuoted [92, a] = none := by
  rw [readQuoted]
  · rfl
  · decide
  · intro a b u _ e; cases e
def nq (c : Nat) : Bool := notQ c
theorem nq_34 : nq 34 = false := by decide
theorem nq_ne {c : Nat} (h : c ≠ 34) : nq c = true := by
  unfold nq notQ
  have : ¬ (c : Int) = 34 := by omega
  simp [this]
theorem six_hex {a : Nat} : (∀ x, hexOf a = some x → six a = x) ∧ (hexOf a = none → six a = -1) := by
  unfold hexOf six
  rw [dig_eq]
  constructor
  · intro x h
    split at h
    · rename_i c
      rw [if_pos c]
      have := digit_iff.mp c
      have e := Option.some.inj h
      omega
    · rename_i c
      rw [if_neg c]
      split at h
      · rename_i c2
        rw [if_pos (by simp; omega)]
        have e := Option.some.inj h
        omega
      · cases h
  · intro h
    split at h
    · cases h
    · rename_i c
      rw [if_neg c]
      split at h
      · cases h
      · rename_i c2
        rw [if_neg (by simp; omega)]
theorem toldB_hex (a b : Nat) : toldB [a, b] = match hexOf a, hexOf b with
    | some x, some y => ((16 * x + y : Nat) : Int)
    | _, _ => -1 := by
  rw [toldB_two]
  cases hx : hexOf a with
  | none => rw [six_hex.2 hx]; rfl
  | some x =>
    rw [six_hex.1 x hx, if_neg (by omega)]
    cases hy : hexOf b with
    | none => rw [six_hex.2 hy]; rfl
    | some y =>
      rw [six_hex.1 y hy, if_neg (by omega)]
      show 16 * (x : Int) + y = ((16 * x + y : Nat) : Int)
      rw [Int.natCast_add, Int.natCast_mul]
      rfl
theorem quoted_cq : ∀ (n : Nat) (u : Text), u.length ≤ n → (∀ x r', u.drop (u.takeWhile nq).length = x :: r' → (cq (u.takeWhile nq) = none → readQuoted u = none) ∧ (∀ k, cq (u.takeWhile nq) = some k → ∃ s, s.length = k ∧ readQuoted u = some (s, r'))) ∧
    (u.drop (u.takeWhile nq).length = [] → readQuoted u = none) := by
  intro n
  induction n with
  | zero =>
    intro u hl
    have e : u = [] := List.length_eq_zero_iff.mp (by omega)
    subst e
    exact ⟨fun x r' e => by simp at e, fun _ => rq_nil⟩
  | succ n ih =>
    intro u hl
    cases u with
    | nil => exact ⟨fun x r' e => by simp at e, fun _ => rq_nil⟩
    | cons c u =>
      simp only [List.length_cons] at hl
      by_cases h : c = 34
      · subst h
        rw [List.takeWhile_cons_of_neg (by rw [nq_34]; decide)]
        refine ⟨fun x r' e => ?_, fun e => by simp at e⟩
        have e' : u = r' := (List.cons.inj e).2
        rw [cq_nil, rq_end, e']
        exact ⟨fun e => by (cases e), fun k e => ⟨[], Option.some.inj e, rfl⟩⟩
      · rw [List.takeWhile_cons_of_pos (nq_ne h), List.length_cons, List.drop_succ_cons]
        obtain ⟨i1, i2⟩ := ih u (by omega)
        rw [cq_cons, pla_eq]
        by_cases hp : plain c = true
        · have h92 : c ≠ 92 := fun z => by
            rw [z] at hp
            exact absurd hp (by decide)
          rw [if_pos hp, rq_else h h92, if_pos hp]
          refine ⟨fun x r' e => ?_, fun e => ?_⟩
          · obtain ⟨a1, a2⟩ := i1 x r' e
            refine ⟨fun z => ?_, fun k z => ?_⟩
            · rw [a1 (by simpa using z)]
              rfl
            · cases q : cq (u.takeWhile nq) with
              | none => rw [q] at z; cases z
              | some k' =>
                rw [q] at z
                obtain ⟨s, hs, hq⟩ := a2 k' q
                refine ⟨c :: s, ?_, ?_⟩
                · have : k' + 1 = k := Option.some.inj z
                  simp only [List.length_cons]
                  omega
                · rw [hq]
                  rfl
          · rw [i2 e]
            rfl
        · rw [if_neg hp]
          by_cases h92 : c = 92
          · subst h92
            have e92 : ((92 : Nat) : Int) = 92 := rfl
            simp only [if_pos e92]
            match u with
            | [] =>
              exact ⟨fun x r' e => by simp at e, fun _ => rq_short1⟩
            | [a] =>
              refine ⟨fun x r' e => ?_, fun _ => rq_short2 a⟩
              have hc : toldB (([a].takeWhile nq).take 2) < 0 := toldB_short (by
                have := (List.takeWhile_prefix (l := [a]) nq).length_le
                rw [List.length_take]
                simp at this ⊢
                omega)
              rw [if_pos (.inl hc)]
              exact ⟨fun _ => rq_short2 a, fun k e => by (cases e)⟩
            | a :: b :: u =>
              simp only [List.length_cons] at hl
              have i := ih u (by omega)
              by_cases ha : a = 34
              · subst ha
                rw [List.takeWhile_cons_of_neg (by rw [nq_34]; decide)]
                have e0 : readQuoted (92 :: 34 :: b :: u) = none := by rw [rq_esc]; rfl
                rw [if_pos (.inl (toldB_short (by decide)))]
                exact ⟨fun x r' e => ⟨fun _ => e0, fun k e => by (cases e)⟩, fun _ => e0⟩
              · by_cases hb : b = 34
                · subst hb
                  rw [List.takeWhile_cons_of_pos (nq_ne ha), List.takeWhile_cons_of_neg (by rw [nq_34]; decide)]
                  have e0 : readQuoted (92 :: a :: 34 :: u) = none := by
                    rw [rq_esc]
                    cases hexOf a <;> rfl
                  rw [if_pos (.inl (toldB_short (t := [a].take 2) (by simp)))]
                  exact ⟨fun x r' e => ⟨fun _ => e0, fun k e => by (cases e)⟩, fun _ => e0⟩
                · rw [List.takeWhile_cons_of_pos (nq_ne ha), List.takeWhile_cons_of_pos (nq_ne hb)]
                  simp only [List.take_succ_cons, List.take_zero, List.drop_succ_cons, List.drop_zero, List.length_cons]
                  rw [rq_esc, toldB_hex]
                  obtain ⟨j1, j2⟩ := i
                  cases hx : hexOf a with
                  | none =>
                    dsimp only
                    rw [if_pos (.inl (by decide))]
                    exact ⟨fun x r' e => ⟨fun _ => rfl, fun k e => by (cases e)⟩, fun _ => rfl⟩
                  | some x =>
                    cases hy : hexOf b with
                    | none =>
                      dsimp only
                      rw [if_pos (.inl (by decide))]
                      exact ⟨fun x r' e => ⟨fun _ => rfl, fun k e => by (cases e)⟩, fun _ => rfl⟩
                    | some y =>
                      dsimp only
                      rw [pla_eq]
                      by_cases hpl : plain (16 * x + y) = true
                      · rw [if_pos (.inr hpl), if_pos hpl]
                        exact ⟨fun x r' e => ⟨fun _ => rfl, fun k e => by (cases e)⟩, fun _ => rfl⟩
                      · rw [if_neg (by intro z; rcases z with z | z; exact absurd z (Int.not_lt.mpr (Int.natCast_nonneg _)); exact hpl z), if_neg hpl]
                        refine ⟨fun x' r' e => ?_, fun e => ?_⟩
                        · obtain ⟨a1, a2⟩ := j1 x' r' e
                          refine ⟨fun z => ?_, fun k z => ?_⟩
                          · rw [a1 (by simpa using z)]
                            rfl
                          · cases q : cq (u.takeWhile nq) with
                            | none => rw [q] at z; cases z
                            | some k' =>
                              rw [q] at z
                              obtain ⟨s, hs, hq⟩ := a2 k' q
                              refine ⟨(16 * x + y) :: s, ?_, ?_⟩
                              · have : k' + 1 = k := Option.some.inj z
                                simp only [List.length_cons]
                                omega
                              · rw [hq]
                                rfl
                        · rw [j2 e]
                          rfl
          · rw [if_neg (by omega)]
            have e0 : readQuoted (c :: u) = none := by rw [rq_else h h92, if_neg hp]
            exact ⟨fun x r' e => ⟨fun _ => e0, fun k e => by (cases e)⟩, fun _ => e0⟩
/-- a text at a place -/
theorem str_is (t : List Nat) (i : Nat) {d : Nat} (h : (t.drop i).head? = some 34) :
    (∀ n j, strRes t i = .ok (n, j) → ∃ s, s.length = n ∧ rl d (t.drop i) = .ok (.str s, t.drop j)) ∧ (∀ k, strRes t i = .error k → rl d (t.drop i) = faultAt k (t.drop i)) := by
  have hi : i < t.length := by
    by_cases z : i < t.length
    · exact z
    · rw [List.drop_eq_nil_of_le (by omega)] at h
      cases h
  have ed : t.drop i = 34 :: t.drop (i + 1) := by
    rw [List.drop_eq_getElem_cons hi] at h ⊢
    rw [Option.some.inj h]
  have er : rl d (t.drop i) = match readQuoted (t.drop (i + 1)) with
      | none => faultAt 1 (t.drop i)
      | some (s, u) => if s.length ≤ LONGEST then .ok (.str s, u) else faultAt 3 (t.drop i) := by
    rw [ed, rl_cons]
    rfl
  have eq : runT notQ t (i + 1) = (t.drop (i + 1)).takeWhile nq := rfl
  obtain ⟨a1, a2⟩ := quoted_cq _ (t.drop (i + 1)) (Nat.le_refl _)
  rw [er]
  unfold strRes
  rw [eq]
  generalize hr : (t.drop (i + 1)).takeWhile nq = r at *
  rw [List.drop_drop] at a1 a2
  cases hx : t[i + 1 + r.length]? with
  | none =>
    rw [a2 (List.drop_eq_nil_of_le (List.getElem?_eq_none_iff.mp hx))]
    refine ⟨fun n j e => (by cases e), fun k e => ?_⟩
    cases e
    rfl
  | some x =>
    obtain ⟨hlt, hxe⟩ := List.getElem?_eq_some_iff.mp hx
    obtain ⟨b1, b2⟩ := a1 _ _ (List.drop_eq_getElem_cons hlt)
    cases hq : cq r with
    | none =>
      rw [b1 hq]
      refine ⟨fun n j e => (by cases e), fun k e => ?_⟩
      cases e
      rfl
    | some n =>
      obtain ⟨s, hs, he⟩ := b2 n hq
      rw [he]
      dsimp only
      unfold LONGEST
      by_cases h9 : 999 < n
      · rw [if_pos h9, if_neg (by omega)]
        refine ⟨fun n j e => (by cases e), fun k e => ?_⟩
        cases e
        rfl
      · rw [if_neg h9, if_pos (by omega)]
        refine ⟨fun n j e => ?_, fun k e => (by cases e)⟩
        cases e
        exact ⟨s, hs, rfl⟩
/-! ### names -/
theorem isName_eq {r : Text} (h : ∀ c ∈ r, nameSign c = true) : isName r = goodName r := by
  have e : r.all nameSign = true := List.all_eq_true.mpr h
  unfold isName goodName
  cases r with
  | nil => rfl
  | cons c r =>
    dsimp only
    rw [let_eq, e]
    have : decide (1 ≤ (c :: r).length) = true := by simp
    rw [this]
    simp only [Bool.true_and, Bool.and_true]
    rw [Bool.and_comm]
theorem name_is (t : List Nat) (i : Nat) :
    (isName (runT isNam t i) = true → readName (t.drop i) = .ok (runT isNam t i, t.drop (i + (runT isNam t i).length))) ∧ (isName (runT isNam t i) = false → readName (t.drop i) = faultAt 1 (t.drop i)) := by
  unfold readName
  have e : runT isNam t i = (t.drop i).takeWhile nameSign := runT_eq nam_eq t i
  have ha : ∀ c ∈ runT isNam t i, nameSign c = true := by
    rw [e]
    exact takeWhile_all
  dsimp only
  rw [drop_run, List.drop_drop, ← e, ← isName_eq ha]
  exact ⟨fun h => by rw [if_pos h], fun h => by rw [if_neg (by rw [h]; decide)]⟩
end SF
end -- G2

section -- R1
set_option Elab.async false
set_option linter.all false
set_option maxRecDepth 100000
set_option maxHeartbeats 2000000
/-! # R1: how what is read lies on the heap; occurrences -/
namespace SF
open PySem PySem.Spec PyProof.Rows L2
open LamX (CodeO TabS ExtN TabB)
open Vacola (Fault faultAt)
open Vacolo (Loose readName)
variable {P : Program} {w : World} {K : PySem.W.Frag} {mg : Str → Option Value} {base : Heap}
mutual
/-- a value as it lies -/
inductive RL (H : Hp) : V → Loose → Prop
  | num {a : Addr} {z : Int} : H a = some (.tup [.int 0, .int z]) → RL H (.ref a) (.num z)
  | str {a : Addr} {s : List Nat} {n : Int} : n = s.length → H a = some (.tup [.int 1, .int n]) → RL H (.ref a) (.str s)
  | record {a b : Addr} {xs : List V} {fs : List (List Nat × List Loose)} : H a = some (.tup [.int 2, .ref b]) → H b = some (.lst xs) → RF H xs fs → RL H (.ref a) (.record fs)
  | alt {a b n : Addr} {x : V} {s : List Nat} {v : Loose} : H a = some (.tup [.int 3, .ref b]) → H b = some (.tup [.ref n, x]) → H n = some (.tup (vT s)) → RL H x v → RL H (.ref a) (.alt s v)
/-- fields as they lie -/
inductive RF (H : Hp) : List V → List (List Nat × List Loose) → Prop
  | nil : RF H [] []
  | cons {f n o : Addr} {ys xs : List V} {s : List Nat} {vs : List Loose} {fs : List (List Nat × List Loose)} : H f = some (.tup [.ref n, .ref o]) → H n = some (.tup (vT s)) → H o = some (.lst ys) → RLs H ys vs → RF H xs fs → RF H (.ref f :: xs) ((s, vs) :: fs)
inductive RLs (H : Hp) : List V → List Loose → Prop
  | nil : RLs H [] []
  | cons {x : V} {v : Loose} {xs : List V} {vs : List Loose} : RL H x v → RLs H xs vs → RLs H (x :: xs) (v :: vs)
end
def IsSq (o : HO) : Prop := ∃ xs, o = .lst xs ∨ o = .tup xs
abbrev KpS (H H' : Hp) : Prop := ∀ a o, H a = some o → IsSq o → H' a = some o
mutual
theorem RL.mono {H H' : Hp} (k : KpS H H') : ∀ {x : V} {v : Loose}, RL H x v → RL H' x v
  | _, _, .num h => .num (k _ _ h ⟨_, .inr rfl⟩)
  | _, _, .str e h => .str e (k _ _ h ⟨_, .inr rfl⟩)
  | _, _, .record h1 h2 h3 => .record (k _ _ h1 ⟨_, .inr rfl⟩) (k _ _ h2 ⟨_, .inl rfl⟩) (RF.mono k h3)
  | _, _, .alt h1 h2 h3 h4 => .alt (k _ _ h1 ⟨_, .inr rfl⟩) (k _ _ h2 ⟨_, .inr rfl⟩) (k _ _ h3 ⟨_, .inr rfl⟩) (RL.mono k h4)
theorem RF.mono {H H' : Hp} (k : KpS H H') : ∀ {xs : List V} {fs : List (List Nat × List Loose)}, RF H xs fs → RF H' xs fs
  | _, _, .nil => .nil
  | _, _, .cons h1 h2 h3 h4 h5 => .cons (k _ _ h1 ⟨_, .inr rfl⟩) (k _ _ h2 ⟨_, .inr rfl⟩) (k _ _ h3 ⟨_, .inl rfl⟩) (RLs.mono k h4) (RF.mono k h5)
theorem RLs.mono {H H' : Hp} (k : KpS H H') : ∀ {xs : List V} {vs : List Loose}, RLs H xs vs → RLs H' xs vs
  | _, _, .nil => .nil
  | _, _, .cons h1 h2 => .cons (RL.mono k h1) (RLs.mono k h2)
end
theorem RLs.app {H : Hp} {x : V} {v : Loose} : ∀ {xs : List V} {vs : List Loose}, RLs H xs vs → RL H x v → RLs H (xs ++ [x]) (vs ++ [v])
  | _, _, .nil, h => .cons h .nil
  | _, _, .cons a b, h => .cons a (RLs.app b h)
theorem RF.app {H : Hp} {ys : List V} {gs : List (List Nat × List Loose)} : ∀ {xs : List V} {fs : List (List Nat × List Loose)}, RF H xs fs → RF H ys gs → RF H (xs ++ ys) (fs ++ gs)
  | _, _, .nil, h => h
  | _, _, .cons a b c d e, h => .cons a b c d (RF.app e h)
theorem RLs.len {H : Hp} : ∀ {xs : List V} {vs : List Loose}, RLs H xs vs → xs.length = vs.length
  | _, _, .nil => rfl
  | _, _, .cons _ b => congrArg (· + 1) (RLs.len b)
theorem RF.len {H : Hp} : ∀ {xs : List V} {vs : List (List Nat × List Loose)}, RF H xs vs → xs.length = vs.length
  | _, _, .nil => rfl
  | _, _, .cons _ _ _ _ b => congrArg (· + 1) (RF.len b)
/-- what is new on the heap H, as against H0 -/
def nw (H0 H : Hp) : Hp := fun a => match H0 a with
  | none => H a
  | some _ => none
theorem nw_of {H0 H : Hp} {a : Addr} (h : H0 a = none) : nw H0 H a = H a := by
  unfold nw
  rw [h]
theorem nw_some {H0 H : Hp} {a : Addr} {o : HO} (h : nw H0 H a = some o) : H0 a = none ∧ H a = some o := by
  unfold nw at h
  cases e : H0 a with
  | none => rw [e] at h; exact ⟨rfl, h⟩
  | some u => rw [e] at h; cases h
/-- the reader goes on: it stands at j now, all else stands -/
structure Now (K : PySem.W.Frag) (p a : Addr) (t : List Nat) (H H' : Hp) (j : Nat) : Prop where
  rd : RdAt K H' p a t j
  ch : ChgT K p H H'
  tb : Tb K H'
theorem Now.start {p a : Addr} {t : List Nat} {H : Hp} {i : Nat} (R : RdAt K H p a t i) (tb : Tb K H) : Now K p a t H H i := ⟨R, ChgT.refl, tb⟩
theorem Now.trans {p a : Addr} {t : List Nat} {H H1 H2 : Hp} {i j : Nat} (n : Now K p a t H H1 i) (m : Now K p a t H1 H2 j) : Now K p a t H H2 j := ⟨m.rd, n.ch.trans m.ch, m.tb⟩
theorem Now.chg {p a : Addr} {t : List Nat} {H H1 H2 : Hp} {i j : Nat} (n : Now K p a t H H1 i) (R : RdAt K H2 p a t j) (c : Chg p H1 H2) : Now K p a t H H2 j := ⟨R, n.ch.trans c.t, n.tb.chg c n.rd.insx⟩
theorem Now.same {p a : Addr} {t : List Nat} {H H1 H2 : Hp} {i : Nat} (n : Now K p a t H H1 i) (c : Same H1 H2) : Now K p a t H H2 i := n.chg (n.rd.same c) (Same.chg c)
theorem Now.fresh {p a : Addr} {t : List Nat} {H H1 : Hp} {i : Nat} (n : Now K p a t H H1 i) {d : Addr} (h : H1 d = none) : H d = none := n.ch.fresh n.rd.there n.tb h
theorem Now.flt {p a : Addr} {t : List Nat} {H H1 : Hp} {i k j : Nat} {E : XK} (n : Now K p a t H H1 i) (h : FltT K p k j H E) : FltT K p k j H1 E := h.from n.ch n.rd.there n.tb
theorem Now.flt0 {p a : Addr} {t : List Nat} {H H1 : Hp} {i k j : Nat} {E : XK} (n : Now K p a t H H1 i) (h : FltT K p k j H E) : Flt K p k j H1 E := (n.flt h).flt n.tb n.rd.insx
/-- what was new on H1 is new now -/
theorem Now.kp {p a : Addr} {t : List Nat} {H H1 H2 : Hp} {i : Nat} (h0 : H p ≠ none) (t0 : Tb K H) (n : Now K p a t H H1 i) (m : ChgT K p H1 H2) : KpS (nw H H1) (nw H H2) := fun b o e _ => by
  obtain ⟨e0, e1⟩ := nw_some e
  rw [nw_of e0]
  refine m _ _ e1 (fun z => h0 (z ▸ e0)) fun z => ?_
  obtain ⟨ps, ht, _⟩ := t0
  rw [← z, e0] at ht
  cases ht
theorem Now.kp1 {p a : Addr} {t : List Nat} {H H1 H2 : Hp} {i : Nat} (n : Now K p a t H H1 i) : KpS (nw H1 H2) (nw H H2) := fun b o e _ => by
  obtain ⟨e0, e1⟩ := nw_some e
  rw [nw_of (n.fresh e0)]
  exact e1
theorem RdAt.some {H : Hp} {p a : Addr} {t : List Nat} {i : Nat} (R : RdAt K H p a t i) : H p ≠ none := by
  obtain ⟨dx, e⟩ := R.ins
  rw [e]
  intro z
  cases z
theorem codeO_lst {c : Addr} {q : Str} {xs : List V} : CodeO c q ≠ .lst xs := fun z => by
  unfold CodeO at z
  cases z
theorem Tb.lst {H : Hp} {b : Addr} {xs ys : List V} (t : Tb K H) (hb : H b = some (.lst xs)) : Tb K (upd H b (.lst ys)) := by
  obtain ⟨ps, h1, h2, h3⟩ := t
  refine ⟨ps, ?_, h2, fun pos cv h => ?_⟩
  · rw [upd_ne (ne_of h1 hb (by intro z; cases z))]
    exact h1
  · obtain ⟨c', e1, e2⟩ := h3 pos cv h
    refine ⟨c', e1, ?_⟩
    rw [upd_ne (ne_of e2 hb codeO_lst)]
    exact e2
/-- a list of its own is written -/
theorem Now.upd {p a : Addr} {t : List Nat} {H H1 : Hp} {i j : Nat} {b : Addr} {xs ys : List V} (n : Now K p a t H H1 j) (R : RdAt K H p a t i) (tb : Tb K H) (h0 : H b = none) (hb : H1 b = some (.lst xs)) : Now K p a t H (upd H1 b (.lst ys)) j := by
  obtain ⟨dx, hp⟩ := n.rd.ins
  have ch : ChgT K p H (L2.upd H1 b (.lst ys)) := fun c o e z1 z2 => by
    rw [upd_ne (ne_of_none e h0)]
    exact n.ch c o e z1 z2
  refine ⟨R.chgT tb ch ⟨dx, ?_⟩ n.rd.le, ch, n.tb.lst hb⟩
  rw [upd_ne (ne_of hp hb (by intro z; cases z))]
  exact hp
/-- what a def lets out is what it may let out -/
theorem passE {P : Program} {w : World} {K : PySem.W.Frag} {mg : Str → Option Value} {base : Heap} {N : List Str} {qual : Str} {scope : Scope} {f : Addr} {cd : Value} {A : Around} {outer : List Env} {s : Shared} {H : Hp} {E : XK} :
    Passes (L2.CX P w) (cxOf (L2.CX P w) P w K mg base N qual scope f cd A outer s H E) E := passX (CX' := CX0)
/-! ### the promises of reading -/
/-- a value at depth d (7 ≤ d + n) -/
def spValue (K : PySem.W.Frag) (n : Nat) (ok : Nat → Int → Prop) : Sp := fun vs H Q E => ∃ (p a : Addr) (t : List Nat) (i d : Nat), vs = [.ref p, .int (d : Int)] ∧ 7 ≤ d + n ∧ d ≤ 7 ∧ 1 ≤ d ∧ ok d (signZ t i) ∧ RdAt K H p a t i ∧ Tb K H ∧ t.length ≤ 5000 ∧
  (∀ v j, rl d (t.drop i) = .ok (v, t.drop j) → ∀ H' x, Now K p a t H H' j → RL (nw H H') x v → Q x H') ∧
  (∀ f, rl d (t.drop i) = .error f → FltT K p f.kind (t.length - f.left) H E)
def spOcc (K : PySem.W.Frag) (n : Nat) : Sp := fun vs H Q E => ∃ (p a : Addr) (t : List Nat) (i d : Nat), vs = [.ref p, .int ((d + 1 : Nat) : Int)] ∧ 7 ≤ d + 1 + n ∧ d + 1 ≤ 7 ∧ RdAt K H p a t i ∧ Tb K H ∧ t.length ≤ 5000 ∧
  (∀ vs j, ro d (t.drop i) = .ok (vs, t.drop j) → ∀ H' b xs, Now K p a t H H' j → nw H H' b = some (.lst xs) → RLs (nw H H') xs vs → Q (.ref b) H') ∧
  (∀ f, ro d (t.drop i) = .error f → FltT K p f.kind (t.length - f.left) H E)
/-- occurrences: so many stand, the rest is to be read -/
def contO (d : Nat) (vs : List Loose) (u : List Nat) : Except Fault (List Loose × List Nat) := match u with
  | 44 :: w => (ro d w).map fun (x : List Loose × List Nat) => (vs ++ x.1, x.2)
  | _ => .ok (vs, u)
theorem contO_go (d : Nat) (vs : List Loose) (w : List Nat) : contO d vs (44 :: w) = (ro d w).map fun x => (vs ++ x.1, x.2) := rfl
theorem contO_stop {d : Nat} {vs : List Loose} {u : List Nat} (h : u.head? ≠ some 44) : contO d vs u = .ok (vs, u) := by
  unfold contO
  split
  · exact absurd rfl h
  · rfl
theorem ro_first {d : Nat} {u : List Nat} {v : Loose} {r : List Nat} (h : rl (d + 1) u = .ok (v, r)) : ro d u = contO d [v] r := by
  rw [ro_eq, h]
  show (match r with
      | 44 :: w => (ro d w).map fun (x : List Loose × List Nat) => (v :: x.1, x.2)
      | _ => (.ok ([v], r) : Except Fault (List Loose × List Nat))) = _
  unfold contO
  rfl
theorem ro_err {d : Nat} {u : List Nat} {f : Fault} (h : rl (d + 1) u = .error f) : ro d u = .error f := by
  rw [ro_eq, h]
  rfl
theorem contO_step {d : Nat} {vs : List Loose} {w : List Nat} {v : Loose} {r : List Nat} (h : rl (d + 1) w = .ok (v, r)) : contO d vs (44 :: w) = contO d (vs ++ [v]) r := by
  rw [contO_go, ro_first h]
  unfold contO
  split
  · rename_i y
    cases ro d y with
    | error f => rfl
    | ok x => simp [Except.map]
  · rfl
theorem contO_err {d : Nat} {vs : List Loose} {w : List Nat} {f : Fault} (h : rl (d + 1) w = .error f) : contO d vs (44 :: w) = .error f := by
  rw [contO_go, ro_err h]
  rfl
theorem drop_head {t : List Nat} {j c : Nat} (h : signZ t j = c) : t.drop j = c :: t.drop (j + 1) := by
  have hlt := signZ_in h
  have e := signZ_head.mp h
  rw [List.drop_eq_getElem_cons hlt] at e ⊢
  rw [Option.some.inj e]
theorem rl_le {d : Nat} {t : List Nat} {i j : Nat} {v : Loose} (h : rl d (t.drop i) = .ok (v, t.drop j)) (hj : j ≤ t.length) (hi : i ≤ t.length) : i ≤ j := by
  have := (lens _).1 _ _ _ _ h
  rw [List.length_drop, List.length_drop] at this
  omega
theorem sc_R_occurrences : FnScope ["self", "deep", "found"] ["self", "deep"] (defScope s_R_occurrences) := ⟨rfl, rfl, rfl, by decide +kernel, rfl, by decide +kernel, by decide +kernel⟩
theorem ok_R_occurrences {k n : Nat} (T : Txt K mg) (hk : 2 ≤ k) (hv : DefOk P w K mg base (L2.CX P w) k (He.ma K (CR K) "value") ["self", "deep"] (spValue K n fun _ _ => True)) : DefOk P w K mg base (L2.CX P w) (k + 1) (He.ma K (CR K) "occurrences") ["self", "deep"] (spOcc K n) := by
  obtain ⟨fd, F⟩ := dT T defsA (.inl rfl) 19 rfl
  refine ⟨fd, ?_, bind2 F fun _ _ _ _ _ _ _ _ => rfl, F.kp⟩
  have nd := sc_R_occurrences.nd
  refine F.okX sc_R_occurrences (fun vs H Q E h => by obtain ⟨p, a, t, i, d, rfl, _⟩ := h; rfl) (fun cdv A outer s H vs Q E hr h => ⟨_,
    (pss_cons (ps_set (i := 2) nd rfl (.inl rfl) (pe_lst (pa_cons (pmeth hv (pv 0) (tcl T) (tm T "value" (by decide +kernel)) hr passE (pa_cons (pv 1) pa_nil)) pa_nil)))
    (pss_cons (ps_while (passes_of rfl) (pt_val (pmeth (ok_R_stands T) (pv 0) (tcl T) (tm T "stands" (by decide +kernel)) (hr.mono hk) pass0 (pa_cons (pe_str) pa_nil)))
      (pss_cons (ps_fldaug (pv 0) pe_int in_add)
    (pss_one (ps_expr (pe_bm PySem.F.plainAttrs_list PySem.F.slot_list_append PySem.F.type_list_append mt_append (pv 2) (pa_cons (pmeth hv (pv 0) (tcl T) (tm T "value" (by decide +kernel)) hr passE (pa_cons (pv 1) pa_nil)) pa_nil))))))
    (pss_one (ps_ret (pv 2))))), ?_⟩)
  obtain ⟨p, a, t, i, d, rfl, hn, hd7, R, tb, hlen, q1, q2⟩ := h
  obtain ⟨dx, hp⟩ := R.ins
  refine ⟨_, rfl, p, dx, _, rfl, hp, meth_none _ (by decide +kernel), ?_⟩
  refine ⟨_, rfl, p, a, t, i, d + 1, rfl, hn, hd7, by omega, trivial, R, tb, hlen, fun v j he H1 x n1 rx => ?_, fun f he => q2 f (ro_err he)⟩
  have hij := rl_le he n1.rd.le R.le
  refine ⟨(by show 1 ≤ sizeLine; decide), fun b hb => ?_⟩
  have s1 := same_new (H := H1) (o := .lst [x]) hb
  refine ⟨fun m σ H' => ∃ (j : Nat) (xs : List V) (vs : List Loose), m = t.length - j ∧ σ = [some (.ref p), some (.int ((d + 1 : Nat) : Int)), some (.ref b)] ∧ i ≤ j ∧ Now K p a t H H' j ∧ H' b = some (.lst xs) ∧ RLs (del (nw H H') b) xs vs ∧ xs.length ≤ j + 1 ∧ ro d (t.drop i) = contO d vs (t.drop j),
    ⟨_, j, [x], [v], rfl, rfl, hij, n1.same s1, upd_same, .cons (rx.mono fun c o e _ => ?_) .nil, (by simp), ro_first he⟩, ?_⟩
  · obtain ⟨e0, e1⟩ := nw_some e
    have ne : c ≠ b := ne_of_none e1 hb
    rw [del_ne ne, nw_of e0, upd_ne ne]
    exact e1
  rintro m σ H' ⟨j, xs, vs, rfl, rfl, hij, n', hb', rs, hxl, hc⟩
  obtain ⟨dx', hp'⟩ := n'.rd.ins
  have hnb : H b = none := n1.fresh hb
  refine ⟨_, rfl, p, dx', _, rfl, hp', meth_none _ (by decide +kernel), p, a, t, j, ",", 44, rfl, rfl, rfl, n'.rd, _, rfl, ifb (fun c => ?_) fun c => ?_⟩
  · have c' : signZ t j = 44 := of_decide_eq_true c
    have hlt : j < t.length := signZ_in (c := 44) c'
    have ed : t.drop j = 44 :: t.drop (j + 1) := drop_head (c := 44) c'
    rw [ed] at hc
    refine ⟨fun σ' H2 => ∃ m', m' < t.length - j ∧ ∃ (j : Nat) (xs : List V) (vs : List Loose), m' = t.length - j ∧ σ' = [some (.ref p), some (.int ((d + 1 : Nat) : Int)), some (.ref b)] ∧ i ≤ j ∧ Now K p a t H H2 j ∧ H2 b = some (.lst xs) ∧ RLs (del (nw H H2) b) xs vs ∧ xs.length ≤ j + 1 ∧ ro d (t.drop i) = contO d vs (t.drop j), fun _ _ z => z, ?_⟩
    refine ⟨_, rfl, p, _, dx', _, _, rfl, hp', tcl T, tna T, rF_at, _, _, rfl, rfl, dx', _, hp', (by show 2 < 1000; decide), ?_⟩
    have R2 : RdAt K (upd H' p (.ins (CR K) dx' (putF "at" (.int ((j : Int) + 1)) (rF a j)))) p a t (j + 1) := by
      refine n'.rd.chg chg_upd ⟨dx', ?_⟩ (by omega)
      rw [upd_same, rF_put (j := j + 1) (by omega)]
    have c2 : Chg p H' (upd H' p (.ins (CR K) dx' (putF "at" (.int ((j : Int) + 1)) (rF a j)))) := chg_upd
    generalize upd H' p (.ins (CR K) dx' (putF "at" (.int ((j : Int) + 1)) (rF a j))) = H2 at *
    have n2 : Now K p a t H' H2 (j + 1) := (Now.start n'.rd n'.tb).chg R2 c2
    have nn := n'.trans n2
    have hb2 := c2 _ _ hb' (ne_of hb' hp' (by intro z; cases z))
    obtain ⟨dx2, hp2⟩ := R2.ins
    refine ⟨_, rfl, .inl ⟨rfl, _, SqL.of hb2⟩, ?_⟩
    refine ⟨_, rfl, p, dx2, _, rfl, hp2, meth_none _ (by decide +kernel), ?_⟩
    refine ⟨_, rfl, p, a, t, j + 1, d + 1, rfl, hn, hd7, by omega, trivial, R2, n2.tb, hlen, fun v j2 he2 H3 x2 n3 rx2 => ?_, fun f he2 => nn.flt (q2 f (hc.trans (contO_err he2)))⟩
    have hj2 := rl_le he2 n3.rd.le (by omega)
    have n13 := nn.trans n3
    have htb : b ≠ Pt K := by
      obtain ⟨ps, ht, _⟩ := n2.tb
      exact ne_of hb2 ht (by intro z; cases z)
    have hb3 : H3 b = some (.lst xs) := n3.ch _ _ hb2 (ne_of hb2 hp2 (by intro z; cases z)) htb
    refine ⟨b, xs, x2, rfl, rfl, hb3, (by have : sizeLine = 16777216 := rfl; omega), ?_⟩
    obtain ⟨dx3, hp3⟩ := n3.rd.ins
    have hbp : p ≠ b := ne_of hp3 hb3 (by intro z; cases z)
    have n4 := n13.upd (ys := xs ++ [x2]) R tb hnb hb3
    have hH1 : ∀ c, H c ≠ none → c ≠ b := fun c hc0 z => hc0 (z ▸ hnb)
    refine ⟨t.length - j2, by omega, j2, xs ++ [x2], vs ++ [v], rfl, rfl, by omega, n4, upd_same, ?_, by simp; omega, hc.trans (contO_step he2)⟩
    have mk1 : KpS (del (nw H H') b) (del (nw H (upd H3 b (.lst (xs ++ [x2])))) b) := fun c o e sq => by
      by_cases z : c = b
      · rw [z, del_same] at e
        cases e
      · rw [del_ne z] at e ⊢
        have e3 := (n'.kp R.some tb (n2.trans n3).ch) c o e sq
        obtain ⟨u0, u1⟩ := nw_some e3
        rw [nw_of u0, upd_ne z]
        exact u1
    refine (rs.mono mk1).app (rx2.mono fun c o e sq => ?_)
    obtain ⟨u0, u1⟩ := nw_some e
    have z : c ≠ b := fun z => by
      rw [z, hb2] at u0
      cases u0
    rw [del_ne z, nw_of (nn.fresh u0), upd_ne z]
    exact u1
  · have c' : ¬ signZ t j = 44 := of_decide_eq_false c
    refine ⟨_, rfl, q1 vs j ?_ H' b xs n' ?_ ?_⟩
    · rw [hc, contO_stop fun z => c' (signZ_head (c := 44).mpr z)]
    · rw [nw_of hnb]
      exact hb'
    · refine rs.mono fun c o e _ => ?_
      by_cases z : c = b
      · rw [z, del_same] at e
        cases e
      · rw [del_ne z] at e
        exact e
end SF
end -- R1

section -- R2
set_option Elab.async false
set_option linter.all false
set_option maxRecDepth 100000
set_option maxHeartbeats 2000000
/-! # R2: field, choice -/
namespace SF
open PySem PySem.Spec PyProof.Rows L2
open LamX (CodeO TabS ExtN TabB)
open Vacola (Fault faultAt nameSign goodName)
open Vacolb (expect)
open Vacolo (Loose readName)
variable {P : Program} {w : World} {K : PySem.W.Frag} {mg : Str → Option Value} {base : Heap}
theorem Room.un65 {k : Nat} {A : Around} (r : Room k A) : A.units + 65 < cLine := by have := r.un; omega
theorem ChgT.tup {p : Addr} {H H' : Hp} {n : Addr} {xs : List V} (c : ChgT K p H H') (hp : ∃ C dx fs, H p = some (.ins C dx fs)) (tb : Tb K H) (h : H n = some (.tup xs)) : H' n = some (.tup xs) := by
  obtain ⟨C, dx, fs, hp⟩ := hp
  obtain ⟨ps, ht, _⟩ := tb
  exact c _ _ h (ne_of h hp (by intro z; cases z)) (ne_of h ht (by intro z; cases z))
theorem ChgT.lst {p : Addr} {H H' : Hp} {n : Addr} {xs : List V} (c : ChgT K p H H') (hp : ∃ C dx fs, H p = some (.ins C dx fs)) (tb : Tb K H) (h : H n = some (.lst xs)) : H' n = some (.lst xs) := by
  obtain ⟨C, dx, fs, hp⟩ := hp
  obtain ⟨ps, ht, _⟩ := tb
  exact c _ _ h (ne_of h hp (by intro z; cases z)) (ne_of h ht (by intro z; cases z))
theorem exp_ok {c : Nat} {t : List Nat} {j : Nat} (h : signZ t j = c) : expect c (t.drop j) = .ok (t.drop (j + 1)) := by
  rw [drop_head h]
  show (if c = c then (.ok (t.drop (j + 1)) : Except Fault (List Nat)) else faultAt 1 (c :: t.drop (j + 1))) = _
  rw [if_pos rfl]
theorem exp_err {c : Nat} {t : List Nat} {j : Nat} (h : ¬ signZ t j = c) : expect c (t.drop j) = faultAt 1 (t.drop j) := by
  have hz : (t.drop j).head? ≠ some c := fun z => h (signZ_head.mpr z)
  cases e : t.drop j with
  | nil => rfl
  | cons x r =>
    show (if x = c then (.ok r : Except Fault (List Nat)) else faultAt 1 (x :: r)) = _
    rw [if_neg]
    intro z
    exact hz (by rw [e, z]; rfl)
theorem flt_at {p : Addr} {k j : Nat} {t : List Nat} {H : Hp} {E : XK} (hj : j ≤ t.length) (h : FltT K p ({ kind := k, left := (t.drop j).length } : Fault).kind (t.length - ({ kind := k, left := (t.drop j).length } : Fault).left) H E) : FltT K p k j H E := by
  have e : t.length - (t.drop j).length = j := by rw [List.length_drop]; omega
  dsimp only at h
  rw [e] at h
  exact h
/-- one field -/
def r1 (d : Nat) (bs : List (List Nat)) (t : List Nat) : Except Fault ((List Nat × List Loose) × List Nat) := readName t >>= fun x =>
    if bs.contains x.1 then faultAt 2 t else expect 58 x.2 >>= fun v => ro d v >>= fun o => .ok ((x.1, o.1), o.2)
def contF (d : Nat) (bs : List (List Nat)) (fs : List (List Nat × List Loose)) (u : List Nat) : Except Fault (List (List Nat × List Loose) × List Nat) :=
  if u.head? = some 59 then (rf d bs (u.drop 1)).map fun (z : List (List Nat × List Loose) × List Nat) => (fs ++ z.1, z.2)
  else if u.head? = some 125 then .ok (fs, u.drop 1) else faultAt 1 u
theorem contF_is (d : Nat) (nm : List Nat) (bs : List (List Nat)) (o : List Loose) (w : List Nat) : (match w with
      | 59 :: y => (rf d (nm :: bs) y).map fun (z : List (List Nat × List Loose) × List Nat) => ((nm, o) :: z.1, z.2)
      | 125 :: y => .ok ([(nm, o)], y)
      | _ => faultAt 1 w) = contF d (nm :: bs) [(nm, o)] w := by
  unfold contF
  split
  · rfl
  · rfl
  · rename_i h1 h2
    rw [if_neg, if_neg]
    · intro z
      cases w with
      | nil => cases z
      | cons x r => exact h2 r (by rw [Option.some.inj z])
    · intro z
      cases w with
      | nil => cases z
      | cons x r => exact h1 r (by rw [Option.some.inj z])
theorem rf_r1 (d : Nat) (bs : List (List Nat)) (t : List Nat) : rf d bs t = r1 d bs t >>= fun o => contF d (o.1.1 :: bs) [o.1] o.2 := by
  rw [rf_eq]
  unfold r1
  cases readName t with
  | error f => rfl
  | ok x =>
    show (if bs.contains x.1 then faultAt 2 t else _) = (if bs.contains x.1 then faultAt 2 t else _) >>= _
    split
    · rfl
    · cases expect 58 x.2 with
      | error f => rfl
      | ok v =>
        show (ro d v >>= _) = (ro d v >>= _) >>= _
        cases ro d v with
        | error f => rfl
        | ok o =>
          exact contF_is d x.1 bs o.1 o.2
theorem contF_step {d : Nat} {bs : List (List Nat)} {fs : List (List Nat × List Loose)} {y r : List Nat} {x : List Nat × List Loose} (h : r1 d bs y = .ok (x, r)) : contF d bs fs (59 :: y) = contF d (x.1 :: bs) (fs ++ [x]) r := by
  show ((rf d bs y).map fun (z : List (List Nat × List Loose) × List Nat) => (fs ++ z.1, z.2)) = _
  rw [rf_r1, h]
  show ((contF d (x.1 :: bs) [x] r).map fun (z : List (List Nat × List Loose) × List Nat) => (fs ++ z.1, z.2)) = _
  unfold contF
  split
  · cases rf d (x.1 :: bs) (r.drop 1) with
    | error f => rfl
    | ok x => simp [Except.map]
  · split
    · rfl
    · rfl
theorem contF_err {d : Nat} {bs : List (List Nat)} {fs : List (List Nat × List Loose)} {y : List Nat} {f : Fault} (h : r1 d bs y = .error f) : contF d bs fs (59 :: y) = .error f := by
  show ((rf d bs y).map fun (z : List (List Nat × List Loose) × List Nat) => (fs ++ z.1, z.2)) = _
  rw [rf_r1, h]
  rfl
def spField (K : PySem.W.Frag) (n : Nat) : Sp := fun vs H Q E => ∃ (p a : Addr) (t : List Nat) (i d : Nat) (b : Addr) (xs : List V) (ns bs : List (List Nat)), vs = [.ref p, .int (d : Int), .ref b] ∧ 7 ≤ d + 1 + n ∧ d + 1 ≤ 7 ∧ RdAt K H p a t i ∧ Tb K H ∧ t.length ≤ 5000 ∧
  H b = some (.lst xs) ∧ Nms H xs ns ∧ (∀ s, ns.contains s = bs.contains s) ∧
  (∀ x j, r1 d bs (t.drop i) = .ok (x, t.drop j) → ∀ H' f, Now K p a t H H' j → RF (nw H H') [.ref f] [x] → Q (.ref f) H') ∧
  (∀ f, r1 d bs (t.drop i) = .error f → FltT K p f.kind (t.length - f.left) H E)
theorem sc_R_field : FnScope ["self", "deep", "before", "place", "name"] ["self", "deep", "before"] (defScope s_R_field) := ⟨rfl, rfl, rfl, by decide +kernel, rfl, by decide +kernel, by decide +kernel⟩
theorem ok_R_field {k n : Nat} (T : Txt K mg) (hk : 6 ≤ k) (ho : DefOk P w K mg base (L2.CX P w) k (He.ma K (CR K) "occurrences") ["self", "deep"] (spOcc K n)) : DefOk P w K mg base (L2.CX P w) (k + 1) (He.ma K (CR K) "field") ["self", "deep", "before"] (spField K n) := by
  obtain ⟨fd, F⟩ := dT T defsA (.inl rfl) 20 rfl
  refine ⟨fd, ?_, bind3 F fun _ _ _ _ _ _ _ _ _ => rfl, F.kp⟩
  have nd := sc_R_field.nd
  refine F.okX sc_R_field (fun vs H Q E h => by obtain ⟨p, a, t, i, d, b, xs, ns, bs, rfl, _⟩ := h; rfl) (fun cdv A outer s H vs Q E hr h => ⟨_,
    (pss_cons (ps_set (i := 3) nd rfl (.inl rfl) (pe_fld (pv 0) rfl))
    (pss_cons (ps_set (i := 4) nd rfl (.inl rfl) (pmeth0 (ok_R_name T) (pv 0) (tcl T) (tm T "name" (by decide +kernel)) (hr.mono hk) passE))
    (pss_cons (ps_if (pt_cmpR (op_inN (Room.un65 hr)) (pv 4) (pv 2) (by with_unfolding_all rfl))
      (pss_one (ps_fault rfl (takes_of rfl rfl rfl rfl) T (hr.mono (by omega)) (pa_cons (pgi (T.int ("TWICE", 2) (by decide +kernel))) (pa_cons (pv 3) pa_nil)))) pss_nil)
    (pss_cons (ps_expr (pmeth (ok_R_take T) (pv 0) (tcl T) (tm T "take" (by decide +kernel)) (hr.mono (by omega)) passE (pa_cons (pe_str) pa_nil)))
    (pss_one (ps_ret (pe_tup (pa_cons (pv 4) (pa_cons (pmeth ho (pv 0) (tcl T) (tm T "occurrences" (by decide +kernel)) hr passE (pa_cons (pe_op op_add (pv 1) pe_int) pa_nil)) pa_nil))))))))), ?_⟩)
  obtain ⟨p, a, t, i, d, b, xs, ns, bs, rfl, hn, hd, R, tb, hlen, hb, hN, hbs, q1, q2⟩ := h
  obtain ⟨dx, hp⟩ := R.ins
  obtain ⟨m1, m2⟩ := name_is t i
  refine ⟨_, rfl, p, _, dx, _, _, rfl, hp, tcl T, tna T, rF_at, ?_⟩
  refine ⟨_, rfl, p, dx, _, rfl, hp, meth_none _ (by decide +kernel), p, a, t, i, rfl, R, fun c H1 l R1 c1 hln hl => ?_, fun c => ?_⟩
  · have er : r1 d bs (t.drop i) = if bs.contains (runT isNam t i) then faultAt 2 (t.drop i) else expect 58 (t.drop (i + (runT isNam t i).length)) >>= fun v => ro d v >>= fun o => .ok ((runT isNam t i, o.1), o.2) := by
      unfold r1
      rw [m1 c]
      rfl
    have n1 := (Now.start R tb).chg R1 c1
    have hb1 := n1.ch.lst R.insx tb hb
    have hN1 := hN.mono fun a xs h => n1.ch.tup R.insx tb h
    generalize runT isNam t i = nm at *
    refine ⟨_, rfl, _, rfl, l, b, nm, xs, ns, rfl, rfl, hl, SqL.of hb1, hN1, _, rfl, ifb (fun c2 => ?_) fun c2 => ?_⟩
    · rw [hbs] at c2
      rw [if_pos c2] at er
      refine ⟨fun vs H2 => vs = [.int 2, .int i] ∧ H2 = H1, ⟨_, rfl, rfl, rfl⟩, ?_⟩
      rintro vs H2 ⟨rfl, rfl⟩
      exact ⟨_, _, rfl, fun d' H' hd he s5 => (n1.flt0 (flt_at R.le (q2 _ er))) d' H' hd he (Same.chg s5)⟩
    · rw [hbs] at c2
      rw [if_neg (by rw [c2]; decide)] at er
      obtain ⟨dx1, hp1⟩ := R1.ins
      refine ⟨_, rfl, p, dx1, _, rfl, hp1, meth_none _ (by decide +kernel), p, a, t, _, ":", 58, rfl, rfl, rfl, R1, fun c3 hlt H2 R2 c2 => ?_, fun c3 => ?_⟩
      · rw [exp_ok (c := 58) c3] at er
        have n2 := n1.chg R2 c2
        have hl2 : H2 l = some (.tup (vT nm)) := c2 _ _ hl (ne_of hl hp1 (by intro z; cases z))
        obtain ⟨dx2, hp2⟩ := R2.ins
        refine ⟨_, rfl, _, rfl, p, dx2, _, rfl, hp2, meth_none _ (by decide +kernel), _, rfl, _, _, rfl, rfl, ?_⟩
        refine ⟨p, a, t, _, d, rfl, hn, hd, R2, n2.tb, hlen, fun vs j he H3 o ys n3 ho rs => ?_, fun f he => n2.flt (q2 f (er.trans (by show ro d _ >>= _ = _; rw [he]; rfl)))⟩
        refine ⟨(by show 2 ≤ sizeLine; decide), fun u nu => ?_⟩
        have n4 := (n2.trans n3).same (same_new (o := .tup [.ref l, .ref o]) nu)
        obtain ⟨e1, e2⟩ := nw_some ho
        have hu := (n2.trans n3).fresh nu
        have k4 : KpS (nw H2 H3) (nw H (upd H3 u (.tup [.ref l, .ref o]))) := fun c z hc sq => by
          obtain ⟨z1, z2⟩ := nw_some hc
          rw [nw_of (n2.fresh z1), upd_ne (ne_of_none z2 nu)]
          exact z2
        refine q1 (nm, vs) j (er.trans (by show ro d _ >>= _ = _; rw [he]; rfl)) _ u n4 ?_
        refine .cons (n := l) ?_ ?_ (k4 _ _ ho ⟨_, .inl rfl⟩) (rs.mono k4) .nil
        · rw [nw_of hu, upd_same]
        · rw [nw_of hln, upd_ne (ne_of_none (n3.ch.tup R2.insx n2.tb hl2) nu)]
          exact n3.ch.tup R2.insx n2.tb hl2
      · rw [exp_err (c := 58) c3] at er
        exact (n1.flt0 (flt_at R1.le (q2 _ er)))
  · have er : r1 d bs (t.drop i) = faultAt 1 (t.drop i) := by
      unfold r1
      rw [m2 c]
      rfl
    exact (flt_at R.le (q2 _ er)).flt tb R.insx
end SF
end -- R2

section -- R3
set_option Elab.async false
set_option linter.all false
set_option maxRecDepth 100000
set_option maxHeartbeats 4000000
/-! # R3: choice, record, value -/
namespace SF
open PySem PySem.Spec PyProof.Rows L2
open LamX (CodeO TabS ExtN TabB)
open Vacola (Fault faultAt nameSign goodName)
open Vacolb (expect)
open Vacolo (Loose readName)
variable {P : Program} {w : World} {K : PySem.W.Frag} {mg : Str → Option Value} {base : Heap}
abbrev okRec : Nat → Int → Prop := fun d z => z = 123 ∧ d ≤ 6
abbrev okAlt : Nat → Int → Prop := fun d z => z = 60 ∧ d ≤ 6
theorem sc_R_choice : FnScope ["self", "deep", "name", "value"] ["self", "deep"] (defScope s_R_choice) := ⟨rfl, rfl, rfl, by decide +kernel, rfl, by decide +kernel, by decide +kernel⟩
theorem ok_R_choice {k n : Nat} (T : Txt K mg) (hk : 6 ≤ k) (hv : DefOk P w K mg base (L2.CX P w) k (He.ma K (CR K) "value") ["self", "deep"] (spValue K n fun _ _ => True)) : DefOk P w K mg base (L2.CX P w) (k + 1) (He.ma K (CR K) "choice") ["self", "deep"] (spValue K (n + 1) okAlt) := by
  obtain ⟨fd, F⟩ := dT T defsA (.inl rfl) 22 rfl
  refine ⟨fd, ?_, bind2 F fun _ _ _ _ _ _ _ _ => rfl, F.kp⟩
  have nd := sc_R_choice.nd
  refine F.okX sc_R_choice (fun vs H Q E h => by obtain ⟨p, a, t, i, d, rfl, _⟩ := h; rfl) (fun cdv A outer s H vs Q E hr h => ⟨_,
    (pss_cons (ps_expr (pmeth (ok_R_take T) (pv 0) (tcl T) (tm T "take" (by decide +kernel)) (hr.mono (by omega)) passE (pa_cons (pe_str) pa_nil)))
    (pss_cons (ps_set (i := 2) nd rfl (.inl rfl) (pmeth0 (ok_R_name T) (pv 0) (tcl T) (tm T "name" (by decide +kernel)) (hr.mono hk) passE))
    (pss_cons (ps_expr (pmeth (ok_R_take T) (pv 0) (tcl T) (tm T "take" (by decide +kernel)) (hr.mono (by omega)) passE (pa_cons (pe_str) pa_nil)))
    (pss_cons (ps_set (i := 3) nd rfl (.inl rfl) (pmeth hv (pv 0) (tcl T) (tm T "value" (by decide +kernel)) hr passE (pa_cons (pe_op op_add (pv 1) pe_int) pa_nil)))
    (pss_cons (ps_expr (pmeth (ok_R_take T) (pv 0) (tcl T) (tm T "take" (by decide +kernel)) (hr.mono (by omega)) passE (pa_cons (pe_str) pa_nil)))
    (pss_one (ps_ret (pe_tup (pa_cons (pgi (T.int ("CHOICE", 3) (by decide +kernel))) (pa_cons (pe_tup (pa_cons (pv 2) (pa_cons (pv 3) pa_nil))) pa_nil)))))))))), ?_⟩)
  obtain ⟨p, a, t, i, d, rfl, hn, hd7, hd1, ⟨hz, hd6⟩, R, tb, hlen, q1, q2⟩ := h
  obtain ⟨dx, hp⟩ := R.ins
  have ed : t.drop i = 60 :: t.drop (i + 1) := drop_head (c := 60) hz
  have er : rl d (t.drop i) = readName (t.drop (i + 1)) >>= fun x => expect 58 x.2 >>= fun v => rl (d + 1) v >>= fun y => expect 62 y.2 >>= fun z => .ok (.alt x.1 y.1, z) := by
    rw [ed, rl_cons, if_neg (by decide), if_neg (by decide), if_neg (by decide), if_pos rfl, if_neg (by show ¬ 6 < d; omega)]
  refine ⟨_, rfl, p, dx, _, rfl, hp, meth_none _ (by decide +kernel), p, a, t, i, "<", 60, rfl, rfl, rfl, R, fun _ hlt H1 R1 c1 => ?_, fun c => (c hz).elim⟩
  have n1 := (Now.start R tb).chg R1 c1
  obtain ⟨dx1, hp1⟩ := R1.ins
  obtain ⟨m1, m2⟩ := name_is t (i + 1)
  refine ⟨_, rfl, p, dx1, _, rfl, hp1, meth_none _ (by decide +kernel), p, a, t, i + 1, rfl, R1, fun c H2 l R2 c2 hln hl => ?_, fun c => ?_⟩
  · rw [m1 c] at er
    have n2 := n1.chg R2 c2
    replace hln : H l = none := n1.fresh hln
    obtain ⟨dx2, hp2⟩ := R2.ins
    generalize runT isNam t (i + 1) = nm at *
    refine ⟨_, rfl, p, dx2, _, rfl, hp2, meth_none _ (by decide +kernel), p, a, t, _, ":", 58, rfl, rfl, rfl, R2, fun c3 hlt3 H3 R3 c3' => ?_, fun c3 => ?_⟩
    · have er3 : rl d (t.drop i) = rl (d + 1) (t.drop (i + 1 + nm.length + 1)) >>= fun y => expect 62 y.2 >>= fun z => .ok (.alt nm y.1, z) := er.trans (by show expect 58 _ >>= _ = _; rw [exp_ok (c := 58) c3]; rfl)
      have n3 := n2.chg R3 c3'
      obtain ⟨dx3, hp3⟩ := R3.ins
      have hl3 := c3' _ _ hl (ne_of hl hp2 (by intro z; cases z))
      refine ⟨_, rfl, p, dx3, _, rfl, hp3, meth_none _ (by decide +kernel), _, rfl, _, _, rfl, rfl, ?_⟩
      refine ⟨p, a, t, _, d + 1, rfl, by omega, by omega, by omega, trivial, R3, n3.tb, hlen, fun v j he H4 x n4 rx => ?_, fun f he => n3.flt (q2 f (er3.trans (by rw [he]; rfl)))⟩
      have n14 := n3.trans n4
      obtain ⟨dx4, hp4⟩ := n4.rd.ins
      have hl4 := n4.ch.tup R3.insx n3.tb hl3
      refine ⟨_, rfl, p, dx4, _, rfl, hp4, meth_none _ (by decide +kernel), p, a, t, _, ">", 62, rfl, rfl, rfl, n4.rd, fun c5 hlt5 H5 R5 c5' => ?_, fun c5 => ?_⟩
      · have er5 : rl d (t.drop i) = .ok (.alt nm v, t.drop (j + 1)) := er3.trans (by rw [he]; show expect 62 _ >>= _ = _; rw [exp_ok (c := 62) c5]; rfl)
        have n5 := n14.chg R5 c5'
        have hl5 := c5' _ _ hl4 (ne_of hl4 hp4 (by intro z; cases z))
        refine ⟨_, rfl, _, rfl, (by show 2 ≤ sizeLine; decide), fun u nu => ⟨(by show 2 ≤ sizeLine; decide), fun u2 nu2 => ?_⟩⟩
        have s6 := same_new (H := H5) (o := .tup [.ref l, x]) nu
        have n6 := n5.same s6
        have n7 := n6.same (same_new (o := .tup [.int 3, .ref u]) nu2)
        have hu := n5.fresh nu
        have hu2 := n6.fresh nu2
        refine q1 _ _ er5 _ (.ref u2) n7 (.alt (b := u) (n := l) (x := x) ?_ ?_ ?_ (rx.mono fun b o e sq => ?_))
        · rw [nw_of hu2, upd_same]
        · rw [nw_of hu, upd_ne (ne_of_none upd_same nu2), upd_same]
        · rw [nw_of hln, upd_ne (ne_of_none (s6 _ _ hl5) nu2)]
          exact s6 _ _ hl5
        · obtain ⟨e0, e1⟩ := nw_some e
          have e5 : H5 b = some o := c5' _ _ e1 fun z => by
            rw [z, hp3] at e0
            cases e0
          rw [nw_of (n3.fresh e0), upd_ne (ne_of_none (s6 _ _ e5) nu2)]
          exact s6 _ _ e5
      · exact n14.flt0 (flt_at n4.rd.le (q2 _ (er3.trans (by rw [he]; show expect 62 _ >>= _ = _; rw [exp_err (c := 62) c5]; rfl))))
    · exact n2.flt0 (flt_at R2.le (q2 _ (er.trans (by show expect 58 _ >>= _ = _; rw [exp_err (c := 58) c3]; rfl))))
  · rw [m2 c] at er
    exact n1.flt0 (flt_at R1.le (q2 _ er))

theorem RF.at {H : Hp} : ∀ {xs : List V} {fs : List (List Nat × List Loose)} {i : Nat} {x : V}, RF H xs fs → xs[i]? = some x → ∃ f n o s vs, x = .ref f ∧ fs[i]? = some (s, vs) ∧ H f = some (.tup [.ref n, .ref o]) ∧ H n = some (.tup (vT s))
  | _, _, _, _, .nil, h => by simp at h
  | _, _, 0, y, .cons a b c d e, h => ⟨_, _, _, _, _, (Option.some.inj h).symm, rfl, a, b⟩
  | _, _, i + 1, y, .cons a b c d e, h => by
    obtain ⟨f, n, o, s, vs, h1, h2, h3, h4⟩ := RF.at e (i := i) (x := y) h
    exact ⟨f, n, o, s, vs, h1, h2, h3, h4⟩
abbrev recN : List Str := ["self", "deep", "found", "name", "some"]
theorem sc_R_record : FnScope recN ["self", "deep"] (defScope s_R_record) := ⟨rfl, rfl, rfl, by decide +kernel, rfl, by decide +kernel, by decide +kernel⟩
theorem r1_len {d : Nat} {bs : List (List Nat)} {u r : List Nat} {x : List Nat × List Loose} (h : r1 d bs u = .ok (x, r)) : r.length ≤ u.length := by
  unfold r1 at h
  obtain ⟨⟨nm, u1⟩, h1, h⟩ := bind_ok h
  have a1 := readName_len h1
  dsimp only at h
  split at h
  · cases h
  · obtain ⟨v, h2, h⟩ := bind_ok h
    have a2 := expect_len h2
    obtain ⟨⟨o, y⟩, h3, h⟩ := bind_ok h
    have a3 := (lens _).2.2 _ _ _ _ h3
    have e := (Prod.mk.inj (Except.ok.inj h)).2
    dsimp only at e
    rw [← e]
    omega
theorem ok_R_record {k n : Nat} (T : Txt K mg) (hk : 4 ≤ k) (hf : DefOk P w K mg base (L2.CX P w) k (He.ma K (CR K) "field") ["self", "deep", "before"] (spField K n)) : DefOk P w K mg base (L2.CX P w) (k + 1) (He.ma K (CR K) "record") ["self", "deep"] (spValue K (n + 1) okRec) := by
  obtain ⟨fd, F⟩ := dT T defsA (.inl rfl) 21 rfl
  refine ⟨fd, ?_, bind2 F fun _ _ _ _ _ _ _ _ => rfl, F.kp⟩
  have nd := sc_R_record.nd
  refine F.okX sc_R_record (fun vs H Q E h => by obtain ⟨p, a, t, i, d, rfl, _⟩ := h; rfl) (fun cdv A outer s H vs Q E hr h => ⟨_,
    (pss_cons (ps_expr (pmeth (ok_R_take T) (pv 0) (tcl T) (tm T "take" (by decide +kernel)) (hr.mono (by omega)) passE (pa_cons (pe_str) pa_nil)))
    (pss_cons (ps_if (pt_val (pmeth (ok_R_stands T) (pv 0) (tcl T) (tm T "stands" (by decide +kernel)) (hr.mono (by omega)) pass0 (pa_cons (pe_str) pa_nil)))
      (pss_cons (ps_fldaug (pv 0) pe_int in_add)
    (pss_one (ps_ret (pe_tup (pa_cons (pgi (T.int ("RECORD", 2) (by decide +kernel))) (pa_cons (pe_lst pa_nil) pa_nil)))))) pss_nil)
    (pss_cons (ps_set (i := 2) nd rfl (.inl rfl) (pe_lst (pa_cons (pmeth hf (pv 0) (tcl T) (tm T "field" (by decide +kernel)) hr passE (pa_cons (pv 1) (pa_cons (pe_lst pa_nil) pa_nil))) pa_nil)))
    (pss_cons (ps_while (passes_of rfl) (pt_val (pmeth (ok_R_stands T) (pv 0) (tcl T) (tm T "stands" (by decide +kernel)) (hr.mono (by omega)) pass0 (pa_cons (pe_str) pa_nil)))
      (pss_cons (ps_fldaug (pv 0) pe_int in_add)
    (pss_one (ps_expr (pe_bm PySem.F.plainAttrs_list PySem.F.slot_list_append PySem.F.type_list_append mt_append (pv 2) (pa_cons (pmeth hf (pv 0) (tcl T) (tm T "field" (by decide +kernel)) hr passE (pa_cons (pv 1) (pa_cons (pe_lc (own := [("name", 3), ("some", 4)]) (g := gTup K 2 (gCons (gName 3) (gCons (gName 4) gNil))) (tt := tYes) rfl nd (pi_list (pv 2)) (blkOk_by (N := recN) (sc := defScope s_R_record) (by decide +kernel))
            (fun _ _ _ _ _ => pg_tup rfl (pgs_cons (pg_name (i := 3) nd rfl (Or.inl rfl)) (pgs_cons (pg_name (i := 4) nd rfl (Or.inl rfl)) pgs_nil))) (fun _ _ _ _ _ => pts_nil) (fun _ _ _ _ _ => pv 3)) pa_nil))) pa_nil))))))
    (pss_cons (ps_expr (pmeth (ok_R_take T) (pv 0) (tcl T) (tm T "take" (by decide +kernel)) (hr.mono (by omega)) passE (pa_cons (pe_str) pa_nil)))
    (pss_one (ps_ret (pe_tup (pa_cons (pgi (T.int ("RECORD", 2) (by decide +kernel))) (pa_cons (pv 2) pa_nil)))))))))), ?_⟩)
  obtain ⟨p, a, t, i, d, rfl, hn, hd7, hd1, ⟨hz, hd6⟩, R, tb, hlen, q1, q2⟩ := h
  obtain ⟨dx, hp⟩ := R.ins
  have ed : t.drop i = 123 :: t.drop (i + 1) := drop_head (c := 123) hz
  have er : rl d (t.drop i) = if (t.drop (i + 1)).head? = some 125 then .ok (.record [], (t.drop (i + 1)).drop 1) else (rf d [] (t.drop (i + 1))).map fun x => (.record x.1, x.2) := by
    rw [ed, rl_cons, if_neg (by decide), if_neg (by decide), if_pos rfl, if_neg (by show ¬ 6 < d; omega)]
  refine ⟨_, rfl, p, dx, _, rfl, hp, meth_none _ (by decide +kernel), p, a, t, i, "{", 123, rfl, rfl, rfl, R, fun _ hlt H1 R1 c1 => ?_, fun c => (c hz).elim⟩
  replace R1 : RdAt K H1 p a t (i + 1) := R1
  have n1 := (Now.start R tb).chg R1 c1
  obtain ⟨dx1, hp1⟩ := R1.ins
  refine ⟨_, rfl, p, dx1, _, rfl, hp1, meth_none _ (by decide +kernel), p, a, t, i + 1, "}", 125, rfl, rfl, rfl, R1, _, rfl, ifb (fun c => ?_) fun c => ?_⟩
  · have c' : signZ t (i + 1) = 125 := of_decide_eq_true c
    have hlt : i + 1 < t.length := signZ_in (c := 125) c'
    rw [if_pos (signZ_head.mp c'), List.drop_drop] at er
    refine ⟨_, rfl, p, _, dx1, _, _, rfl, hp1, tcl T, tna T, rF_at, _, _, rfl, rfl, dx1, _, hp1, (by show 2 < 1000; decide), ?_⟩
    have R2 : RdAt K (upd H1 p (.ins (CR K) dx1 (putF "at" (.int (((i + 1 : Nat) : Int) + 1)) (rF a (i + 1))))) p a t (i + 1 + 1) := by
      refine R1.chg chg_upd ⟨dx1, ?_⟩ (by omega)
      rw [upd_same, rF_put (j := i + 1 + 1) (by omega)]
    have n2 := n1.chg R2 chg_upd
    generalize upd H1 p (.ins (CR K) dx1 (putF "at" (.int (((i + 1 : Nat) : Int) + 1)) (rF a (i + 1)))) = H2 at *
    refine ⟨(by show 0 ≤ sizeLine; decide), fun u nu => ⟨(by show 2 ≤ sizeLine; decide), fun u2 nu2 => ?_⟩⟩
    have n3 := n2.same (same_new (o := .lst []) nu)
    have n4 := n3.same (same_new (o := .tup [.int 2, .ref u]) nu2)
    refine q1 _ _ er _ (.ref u2) n4 (.record (b := u) ?_ ?_ .nil)
    · rw [nw_of (n3.fresh nu2), upd_same]
    · rw [nw_of (n2.fresh nu), upd_ne (ne_of_none upd_same nu2), upd_same]
  · have c' : ¬ signZ t (i + 1) = 125 := of_decide_eq_false c
    rw [if_neg fun z => c' (signZ_head.mpr z)] at er
    refine ⟨_, rfl, p, dx1, _, rfl, hp1, meth_none _ (by decide +kernel), _, rfl, (by show 0 ≤ sizeLine; decide), fun e0 ne0 => ?_⟩
    have n2 := n1.same (same_new (o := .lst []) ne0)
    refine ⟨p, a, t, i + 1, d, e0, [], [], [], rfl, by omega, by omega, n2.rd, n2.tb, hlen, upd_same, trivial, fun _ => rfl, fun x j he H2 f n3 rx => ?_, fun f he => n2.flt (q2 f (er.trans (by rw [rf_r1, he]; rfl)))⟩
    have n13 := n2.trans n3
    refine ⟨(by show 1 ≤ sizeLine; decide), fun b hb => ?_⟩
    have hnb : H b = none := n13.fresh hb
    have s1 := same_new (H := H2) (o := .lst [.ref f]) hb
    refine ⟨fun m σ H' => ∃ (j : Nat) (xs : List V) (fs : List (List Nat × List Loose)) (bs : List (List Nat)), m = t.length - j ∧ σ = [some (.ref p), some (.int (d : Int)), some (.ref b), none, none] ∧ Now K p a t H H' j ∧ H' b = some (.lst xs) ∧ RF (del (nw H H') b) xs fs ∧ xs.length ≤ j + 1 ∧ (∀ s, (fs.map Prod.fst).contains s = bs.contains s) ∧
        rl d (t.drop i) = (contF d bs fs (t.drop j)).map fun x => (.record x.1, x.2),
      ⟨_, j, [.ref f], [x], [x.1], rfl, rfl, n13.same s1, upd_same, (rx.mono fun c o e sq => ?_), (by simp), fun s => rfl, er.trans (by rw [rf_r1, he]; rfl)⟩, ?_⟩
    · obtain ⟨z0, z1⟩ := nw_some e
      have ne : c ≠ b := ne_of_none z1 hb
      rw [del_ne ne, nw_of (n2.fresh z0), upd_ne ne]
      exact z1
    rintro m σ H' ⟨j, xs, fs, bs, rfl, rfl, n', hb', rs, hxl, hbs, hc⟩
    obtain ⟨dx', hp'⟩ := n'.rd.ins
    have kH : KpS (del (nw H H') b) H' := fun c o e _ => by
      by_cases z : c = b
      · rw [z, del_same] at e
        cases e
      · rw [del_ne z] at e
        exact (nw_some e).2
    refine ⟨_, rfl, p, dx', _, rfl, hp', meth_none _ (by decide +kernel), p, a, t, j, ";", 59, rfl, rfl, rfl, n'.rd, _, rfl, ifb (fun c => ?_) fun c => ?_⟩
    · have c' : signZ t j = 59 := of_decide_eq_true c
      have hlt : j < t.length := signZ_in (c := 59) c'
      rw [drop_head (c := 59) c'] at hc
      refine ⟨fun σ' H2 => ∃ m', m' < t.length - j ∧ ∃ (j : Nat) (xs : List V) (fs : List (List Nat × List Loose)) (bs : List (List Nat)), m' = t.length - j ∧ σ' = [some (.ref p), some (.int (d : Int)), some (.ref b), none, none] ∧ Now K p a t H H2 j ∧ H2 b = some (.lst xs) ∧ RF (del (nw H H2) b) xs fs ∧ xs.length ≤ j + 1 ∧ (∀ s, (fs.map Prod.fst).contains s = bs.contains s) ∧
        rl d (t.drop i) = (contF d bs fs (t.drop j)).map fun x => (.record x.1, x.2), fun _ _ z => z, ?_⟩
      refine ⟨_, rfl, p, _, dx', _, _, rfl, hp', tcl T, tna T, rF_at, _, _, rfl, rfl, dx', _, hp', (by show 2 < 1000; decide), ?_⟩
      have R2 : RdAt K (upd H' p (.ins (CR K) dx' (putF "at" (.int ((j : Int) + 1)) (rF a j)))) p a t (j + 1) := by
        refine n'.rd.chg chg_upd ⟨dx', ?_⟩ (by omega)
        rw [upd_same, rF_put (j := j + 1) (by omega)]
      have c2 : Chg p H' (upd H' p (.ins (CR K) dx' (putF "at" (.int ((j : Int) + 1)) (rF a j)))) := chg_upd
      generalize upd H' p (.ins (CR K) dx' (putF "at" (.int ((j : Int) + 1)) (rF a j))) = H2 at *
      have n2 : Now K p a t H' H2 (j + 1) := (Now.start n'.rd n'.tb).chg R2 c2
      have nn := n'.trans n2
      have hb2 := n2.ch.lst n'.rd.insx n'.tb hb'
      obtain ⟨dx2, hp2⟩ := R2.ins
      have rs2 : RF H2 xs fs := (rs.mono kH).mono fun c o e sq => by
        obtain ⟨xs, rfl | rfl⟩ := sq
        · exact n2.ch.lst n'.rd.insx n'.tb e
        · exact n2.ch.tup n'.rd.insx n'.tb e
      refine ⟨_, rfl, .inl ⟨rfl, _, SqL.of hb2⟩, ?_⟩
      refine ⟨_, rfl, p, dx2, _, rfl, hp2, meth_none _ (by decide +kernel), _, rfl, ?_⟩
      refine ⟨_, rfl, b, rfl, ⟨_, SqL.of hb2⟩, fun D hD => ?_⟩
      refine lc_list (K := K) (a := b) (xs := xs) (fun i H3 => ∃ acc, H3 D = some (.lst acc) ∧ Nms H2 acc ((fs.map Prod.fst).take i) ∧ (∀ c o, H2 c = some o → H3 c = some o) ∧ i ≤ xs.length)
        ⟨[], upd_same, trivial, same_new hD, Nat.zero_le _⟩ (fun i H3 _ ⟨acc, _, _, k3, _⟩ => SqL.of (k3 _ _ hb2)) ?_ ?_
      · rintro i0 y H3 hy ⟨acc, h1, h2, k3, hle⟩
        obtain ⟨f', n', o', s', vs', rfl, e1, e2, e3⟩ := rs2.at hy
        have hi0 := (List.getElem?_eq_some_iff.mp hy).1
        refine ⟨f', _, rfl, SqT.of (k3 _ _ e2), rfl, _, _, rfl, _, _, rfl, rfl, rfl, ?_⟩
        refine ⟨_, rfl, acc, h1, ?_, acc ++ [.ref n'], upd_same, ?_, fun c o e => ?_, by omega⟩
        · have := h2.len
          have : acc.length ≤ xs.length := by rw [this, List.length_take]; omega
          have : sizeLine = 16777216 := rfl
          omega
        · rw [take_more (x := s') (by rw [List.getElem?_map, e1]; rfl)]
          exact h2.app e3
        · rw [upd_ne (ne_of_none e hD)]
          exact k3 c o e
      · rintro H3 ⟨acc, h1, h2, k3, _⟩
        have efs : (fs.map Prod.fst).take xs.length = fs.map Prod.fst := by
          rw [rs2.len]
          exact List.take_of_length_le (by simp)
        rw [efs] at h2
        have n3 : Now K p a t H' H3 (j + 1) := n2.same k3
        have nn3 := n'.trans n3
        have hb3 : H3 b = some (.lst xs) := k3 _ _ hb2
        refine ⟨p, a, t, j + 1, d, D, acc, fs.map Prod.fst, bs, rfl, by omega, by omega, n3.rd, n3.tb, hlen, h1, h2.mono fun c xs e => k3 _ _ e, hbs, fun x j2 he2 H5 f5 n5 rx => ?_, fun f he2 => nn3.flt (q2 f (hc.trans (by rw [contF_err he2]; rfl)))⟩
        have hj2 : j + 1 ≤ j2 := by
          have h1 := r1_len he2
          have h2 := n5.rd.le
          rw [List.length_drop, List.length_drop] at h1
          omega
        have n15 := nn3.trans n5
        have hb5 : H5 b = some (.lst xs) := n5.ch.lst n3.rd.insx n3.tb hb3
        refine ⟨b, xs, .ref f5, rfl, rfl, hb5, (by have : sizeLine = 16777216 := rfl; omega), ?_⟩
        have n6 := n15.upd (ys := xs ++ [.ref f5]) R tb hnb hb5
        refine ⟨t.length - j2, by omega, j2, xs ++ [.ref f5], fs ++ [x], x.1 :: bs, rfl, rfl, n6, upd_same, ?_, by simp; omega, fun s => ?_, hc.trans (by rw [contF_step he2])⟩
        · have mk1 : KpS (del (nw H H') b) (del (nw H (upd H5 b (.lst (xs ++ [.ref f5])))) b) := fun c o e sq => by
            by_cases z : c = b
            · rw [z, del_same] at e
              cases e
            · rw [del_ne z] at e ⊢
              have e3 := (n'.kp R.some tb (n3.trans n5).ch) c o e sq
              obtain ⟨u0, u1⟩ := nw_some e3
              rw [nw_of u0, upd_ne z]
              exact u1
          refine (rs.mono mk1).app (rx.mono fun c o e sq => ?_)
          obtain ⟨u0, u1⟩ := nw_some e
          have z : c ≠ b := fun z => by
            rw [z, hb3] at u0
            cases u0
          rw [del_ne z, nw_of (nn3.fresh u0), upd_ne z]
          exact u1
        · rw [List.map_append, List.contains_append, hbs]
          simp [Bool.or_comm]
    · have c' : ¬ signZ t j = 59 := of_decide_eq_false c
      have hne : ¬ (t.drop j).head? = some 59 := fun z => c' (signZ_head (c := 59).mpr z)
      refine ⟨_, rfl, p, dx', _, rfl, hp', meth_none _ (by decide +kernel), p, a, t, j, "}", 125, rfl, rfl, rfl, n'.rd, fun c3 hlt H5 R5 c5 => ?_, fun c3 => ?_⟩
      · have n5 := n'.chg R5 c5
        have hb5 := c5.t.lst n'.rd.insx n'.tb hb'
        refine ⟨_, rfl, (by show 2 ≤ sizeLine; decide), fun u nu => ?_⟩
        have s6 := same_new (H := H5) (o := .tup [.int 2, .ref b]) nu
        have n6 := n5.same s6
        refine q1 (.record fs) (j + 1) (hc.trans ?_) _ (.ref u) n6 (.record (b := b) (xs := xs) ?_ ?_ (rs.mono fun c o e sq => ?_))
        · unfold contF
          rw [if_neg hne, if_pos (signZ_head.mp c3), List.drop_drop]
          rfl
        · rw [nw_of (n5.fresh nu), upd_same]
        · rw [nw_of hnb, upd_ne (ne_of_none hb5 nu)]
          exact hb5
        · by_cases z : c = b
          · rw [z, del_same] at e
            cases e
          · rw [del_ne z] at e
            exact n'.kp R.some tb (c5.trans (Same.chg s6)).t c o e sq
      · refine n'.flt0 (flt_at n'.rd.le (q2 _ (hc.trans ?_)))
        unfold contF
        rw [if_neg hne, if_neg fun z => c3 (signZ_head.mpr z)]
        rfl
end SF
end -- R3

section -- R4
set_option Elab.async false
set_option linter.all false
set_option maxRecDepth 100000
set_option maxHeartbeats 4000000
/-! # R4: value, the reader's methods together, row_read -/
namespace SF
open PySem PySem.Spec PyProof.Rows L2
open LamX (CodeO TabS ExtN TabB)
open Vacola (Fault faultAt nameSign goodName isDigit)
open Vacolb (expect)
open Vacolo (Loose readName readNum)
variable {P : Program} {w : World} {K : PySem.W.Frag} {mg : Str → Option Value} {base : Heap}
theorem sc_R_value : FnScope ["self", "deep", "sign"] ["self", "deep"] (defScope s_R_value) := ⟨rfl, rfl, rfl, by decide +kernel, rfl, by decide +kernel, by decide +kernel⟩
theorem ok_R_value {k n : Nat} (T : Txt K mg) (TB : TabB base mg (He.cT K dStr).1 (He.cT K dStr).2) (hk : 6 ≤ k) (hr' : DefOk P w K mg base (L2.CX P w) k (He.ma K (CR K) "record") ["self", "deep"] (spValue K n okRec)) (hc' : DefOk P w K mg base (L2.CX P w) k (He.ma K (CR K) "choice") ["self", "deep"] (spValue K n okAlt)) :
    DefOk P w K mg base (L2.CX P w) (k + 1) (He.ma K (CR K) "value") ["self", "deep"] (spValue K n fun _ _ => True) := by
  obtain ⟨fd, F⟩ := dT T defsA (.inl rfl) 16 rfl
  refine ⟨fd, ?_, bind2 F fun _ _ _ _ _ _ _ _ => rfl, F.kp⟩
  have nd := sc_R_value.nd
  refine F.okX sc_R_value (fun vs H Q E h => by obtain ⟨p, a, t, i, d, rfl, _⟩ := h; rfl) (fun cdv A outer s H vs Q E hr h => ⟨_,
    (pss_cons (ps_set (i := 2) nd rfl (.inl rfl) (pmeth0 (ok_R_sign T) (pv 0) (tcl T) (tm T "sign" (by decide +kernel)) (hr.mono (by omega)) pass0))
    (pss_cons (ps_if (PW.pt (pw_or (pt_cmpR op_eq (pv 2) (pgi (T.int ("MINUS", 45) (by decide +kernel))) (nomark _)) (pw_or1 (pt_val (pcall (ok_is_digit T) (hr.mono (by omega)) (T.glo "is_digit" (by decide +kernel)) pass0 (pa_cons (pv 2) pa_nil))))))
      (pss_one (ps_ret (pmeth0 (ok_R_take_number T) (pv 0) (tcl T) (tm T "take_number" (by decide +kernel)) (hr.mono hk) passE))) pss_nil)
    (pss_cons (ps_if (pt_cmpR op_eq (pv 2) (pgi (T.int ("QUOTE", 34) (by decide +kernel))) (nomark _))
      (pss_one (ps_ret (pmeth0 (ok_R_string T TB) (pv 0) (tcl T) (tm T "string" (by decide +kernel)) (hr.mono hk) passE))) pss_nil)
    (pss_cons (ps_if (PW.pt (pw_and (pt_not (pt_val (pmeth (ok_R_stands T) (pv 0) (tcl T) (tm T "stands" (by decide +kernel)) (hr.mono (by omega)) pass0 (pa_cons (pe_str) pa_nil))))
        (pw_and1 (pt_not (pt_val (pmeth (ok_R_stands T) (pv 0) (tcl T) (tm T "stands" (by decide +kernel)) (hr.mono (by omega)) pass0 (pa_cons (pe_str) pa_nil)))))))
      (pss_one (ps_fault rfl (takes_of rfl rfl rfl rfl) T (hr.mono (by omega)) (pa_cons (pgi (T.int ("WRONG", 1) (by decide +kernel))) (pa_cons (pe_fld (pv 0) rfl) pa_nil)))) pss_nil)
    (pss_cons (ps_if (pt_cmpR op_gt (pv 1) (pgi (T.int ("MOST_DEEP", 6) (by decide +kernel))) (nomark _))
      (pss_one (ps_fault rfl (takes_of rfl rfl rfl rfl) T (hr.mono (by omega)) (pa_cons (pgi (T.int ("TOO_DEEP", 4) (by decide +kernel))) (pa_cons (pe_fld (pv 0) rfl) pa_nil)))) pss_nil)
    (pss_cons (ps_if (pt_val (pmeth (ok_R_stands T) (pv 0) (tcl T) (tm T "stands" (by decide +kernel)) (hr.mono (by omega)) pass0 (pa_cons (pe_str) pa_nil)))
      (pss_one (ps_ret (pmeth hr' (pv 0) (tcl T) (tm T "record" (by decide +kernel)) hr passE (pa_cons (pv 1) pa_nil)))) pss_nil)
    (pss_one (ps_ret (pmeth hc' (pv 0) (tcl T) (tm T "choice" (by decide +kernel)) hr passE (pa_cons (pv 1) pa_nil)))))))))), ?_⟩)
  obtain ⟨p, a, t, i, d, rfl, hn, hd7, hd1, _, R, tb, hlen, q1, q2⟩ := h
  obtain ⟨dx, hp⟩ := R.ins
  have n0 := Now.start R tb
  have flt : ∀ (k : Nat), rl d (t.drop i) = faultAt k (t.drop i) → ∀ (D : Ends) (z : V), tErr (CF K) "kind" "place" (fun cls d _ H => E cls d H) (tCons (tC (.int (k : Int))) (tCons (tFld K (tVar 0) "at") tNil)) D [some (.ref p), some (.int (d : Int)), some z] H := by
    intro k he D z
    refine ⟨fun vs H1 => vs = [.int k, .int i] ∧ H1 = H, ⟨_, rfl, p, _, dx, _, _, rfl, hp, tcl T, tna T, rF_at, rfl, rfl⟩, ?_⟩
    rintro vs H1 ⟨rfl, rfl⟩
    exact ⟨_, _, rfl, fun d' H' hd he' s5 => (n0.flt0 (flt_at R.le (q2 _ he))) d' H' hd he' (Same.chg s5)⟩
  refine ⟨_, rfl, p, dx, _, rfl, hp, meth_none _ (by decide +kernel), p, a, t, i, rfl, R, ?_⟩
  -- a number?
  have num : (signZ t i = 45 ∨ isDig (signZ t i) = true) → ∀ D : Ends, D.rt = Q → tRet (tMeth (CR K) "take_number" (spNum K) [] E (tVar 0) tNil) D [some (.ref p), some (.int (d : Int)), some (.int (signZ t i))] H := by
    intro hz D hD
    have e : rl d (t.drop i) = readNum (t.drop i) := by
      cases ed : t.drop i with
      | nil =>
        have : signZ t i = -1 := by
          unfold signZ
          rw [List.getElem?_eq_none_iff.mpr]
          have := congrArg List.length ed
          rw [List.length_drop] at this
          simp at this
          omega
        rw [this] at hz
        rcases hz with hz | hz
        · cases hz
        · exact absurd hz (by decide)
      | cons c r =>
        have hc : signZ t i = c := signZ_head.mpr (by rw [ed]; rfl)
        rw [rl_cons, if_pos]
        rw [hc] at hz
        rcases hz with hz | hz
        · have : c = 45 := by omega
          rw [this]
          rfl
        · rw [dig_eq] at hz
          rw [hz]
          rfl
    rw [e, num_is t i R.le] at q1 q2
    unfold tRet
    rw [hD]
    refine ⟨_, rfl, p, dx, _, rfl, hp, meth_none _ (by decide +kernel), p, a, t, i, rfl, R, fun z j he H' l R' c' hl0 hl => ?_, fun k he => ?_⟩
    · rw [he] at q1
      refine q1 _ j rfl H' (.ref l) (n0.chg R' c') (.num ?_)
      rw [nw_of hl0]
      exact hl
    · rw [he] at q2
      exact n0.flt0 (flt_at R.le (q2 _ rfl))
  refine ⟨_, rfl, rfl, _, rfl, ifb (fun c => ?_) fun c => ?_⟩
  · rw [dec_int, ← dib] at c
    exact ifT rfl (num (.inl (of_decide_eq_true c)) _ rfl)
  rw [dec_int, ← dib] at c
  have hm := of_decide_eq_false c
  refine ⟨_, rfl, _, rfl, _, rfl, ifb (fun c => num (.inr c) _ rfl) fun hdg => ?_⟩
  refine ⟨_, rfl, rfl, _, rfl, ifb (fun c => ?_) fun c => ?_⟩
  · rw [dec_int, ← dib] at c
    have hq : signZ t i = 34 := of_decide_eq_true c
    obtain ⟨a1, a2⟩ := str_is t i (d := d) (signZ_head.mp hq)
    refine ⟨_, rfl, p, dx, _, rfl, hp, meth_none _ (by decide +kernel), p, a, t, i, rfl, R, tb, signZ_in (c := 34) hq, hlen, fun n j he H' l R' c' t' hl0 hl => ?_, fun k he => ?_⟩
    · obtain ⟨s, hs, e⟩ := a1 n j he
      refine q1 _ j e H' (.ref l) ⟨R', c', t'⟩ (.str (n := n) (by rw [hs]) ?_)
      rw [nw_of hl0]
      exact hl
    · exact flt_at R.le (q2 _ (a2 k he))
  rw [dec_int, ← dib] at c
  have hq := of_decide_eq_false c
  have wrong : ¬ signZ t i = 123 → ¬ signZ t i = 60 → rl d (t.drop i) = faultAt 1 (t.drop i) := by
    intro h1 h2
    cases ed : t.drop i with
    | nil => exact rl_nil d
    | cons c r =>
      have hc : signZ t i = c := signZ_head.mpr (by rw [ed]; rfl)
      rw [hc] at h1 h2 hm hq hdg
      rw [dig_eq] at hdg
      rw [rl_cons, if_neg, if_neg (by omega), if_neg (by omega), if_neg (by omega)]
      rw [hdg]
      simp
      omega
  refine ⟨_, rfl, p, dx, _, rfl, hp, meth_none _ (by decide +kernel), p, a, t, i, "{", 123, rfl, rfl, rfl, R, _, rfl, ifb (fun c1 => ?_) fun c1 => ?_⟩
  · -- { stands not
    have c1' : ¬ signZ t i = 123 := by simpa using c1
    refine ⟨_, rfl, p, dx, _, rfl, hp, meth_none _ (by decide +kernel), p, a, t, i, "<", 60, rfl, rfl, rfl, R, _, rfl, ifb (fun c2 => ?_) fun c2 => ?_⟩
    · have c2' : ¬ signZ t i = 60 := by simpa using c2
      exact flt 1 (wrong c1' c2') _ _
    · have c2' : signZ t i = 60 := by simpa using c2
      refine ⟨_, rfl, _, _, rfl, rfl, _, rfl, ifb (fun c3 => ?_) fun c3 => ?_⟩
      · have c3' := of_decide_eq_true c3
        refine flt 4 ?_ _ _
        rw [drop_head (c := 60) c2', rl_cons, if_neg (by decide), if_neg (by decide), if_neg (by decide), if_pos rfl, if_pos (by show 6 < d; omega)]
      · have c3' := of_decide_eq_false c3
        refine ⟨_, rfl, p, dx, _, rfl, hp, meth_none _ (by decide +kernel), p, a, t, i, "{", 123, rfl, rfl, rfl, R, _, rfl, ifF (decide_eq_false c1') ?_⟩
        exact ⟨_, rfl, p, dx, _, rfl, hp, meth_none _ (by decide +kernel), _, rfl, p, a, t, i, d, rfl, hn, hd7, hd1, ⟨c2', by omega⟩, R, tb, hlen, q1, q2⟩
  · have c1' : signZ t i = 123 := by simpa using c1
    refine ifF rfl ?_
    refine ⟨_, rfl, _, _, rfl, rfl, _, rfl, ifb (fun c3 => ?_) fun c3 => ?_⟩
    · have c3' := of_decide_eq_true c3
      refine flt 4 ?_ _ _
      rw [drop_head (c := 123) c1', rl_cons, if_neg (by decide), if_neg (by decide), if_pos rfl, if_pos (by show 6 < d; omega)]
    · have c3' := of_decide_eq_false c3
      refine ⟨_, rfl, p, dx, _, rfl, hp, meth_none _ (by decide +kernel), p, a, t, i, "{", 123, rfl, rfl, rfl, R, _, rfl, ifT (decide_eq_true c1') ?_⟩
      exact ⟨_, rfl, p, dx, _, rfl, hp, meth_none _ (by decide +kernel), _, rfl, p, a, t, i, d, rfl, hn, hd7, hd1, ⟨c1', by omega⟩, R, tb, hlen, q1, q2⟩
theorem off_record (T : Txt K mg) {k : Nat} (hk : 1 ≤ k) {ok : Nat → Int → Prop} (hok : ∀ d z, ok d z → d ≤ 6) : DefOk P w K mg base (L2.CX P w) k (He.ma K (CR K) "record") ["self", "deep"] (spValue K 0 ok) := by
  obtain ⟨fd, F⟩ := dT T defsA (.inl rfl) 21 rfl
  refine ⟨fd, ?_, bind2 F fun _ _ _ _ _ _ _ _ => rfl, F.kp⟩
  have no : ∀ vs H Q E, spValue K 0 ok vs H Q E → False := fun vs H Q E ⟨p, a, t, i, d, _, h1, h2, _, h3, _⟩ => by have := hok _ _ h3; omega
  exact (F.okX (k := 0) sc_R_record (fun vs H Q E h => (no vs H Q E h).elim) (fun cdv A outer s H vs Q E hr h => (no vs H Q E h).elim)).mono hk
theorem off_choice (T : Txt K mg) {k : Nat} (hk : 1 ≤ k) {ok : Nat → Int → Prop} (hok : ∀ d z, ok d z → d ≤ 6) : DefOk P w K mg base (L2.CX P w) k (He.ma K (CR K) "choice") ["self", "deep"] (spValue K 0 ok) := by
  obtain ⟨fd, F⟩ := dT T defsA (.inl rfl) 22 rfl
  refine ⟨fd, ?_, bind2 F fun _ _ _ _ _ _ _ _ => rfl, F.kp⟩
  have no : ∀ vs H Q E, spValue K 0 ok vs H Q E → False := fun vs H Q E ⟨p, a, t, i, d, _, h1, h2, _, h3, _⟩ => by have := hok _ _ h3; omega
  exact (F.okX (k := 0) sc_R_choice (fun vs H Q E h => (no vs H Q E h).elim) (fun cdv A outer s H vs Q E hr h => (no vs H Q E h).elim)).mono hk
theorem ok_values (T : Txt K mg) (TB : TabB base mg (He.cT K dStr).1 (He.cT K dStr).2) : ∀ n, DefOk P w K mg base (L2.CX P w) (8 + 5 * n) (He.ma K (CR K) "value") ["self", "deep"] (spValue K n fun _ _ => True)
  | 0 => ok_R_value (k := 7) T TB (by decide) (off_record T (by decide) fun _ _ h => h.2) (off_choice T (by decide) fun _ _ h => h.2)
  | n + 1 => by
    have hv := ok_values T TB n
    have ho := ok_R_occurrences T (by omega) hv
    have hf := ok_R_field T (by omega) ho
    have hre := ok_R_record T (by omega) hf
    have hch := ok_R_choice T (by omega) hv
    exact (ok_R_value T TB (by omega) hre (hch.mono (by omega))).mono (by omega)
end SF
end -- R4

section -- R5
set_option Elab.async false
set_option linter.all false
set_option maxRecDepth 100000
set_option maxHeartbeats 4000000
/-! # R5: row_read -/
namespace SF
open PySem PySem.Spec PyProof.Rows L2
open LamX (CodeO TabS ExtN TabB)
open Vacola (Fault faultAt nameSign goodName isDigit)
open Vacolo (Loose readRow)
variable {P : Program} {w : World} {K : PySem.W.Frag} {mg : Str → Option Value} {base : Heap}
/-- all tracked stands but the table -/
def SmT (K : PySem.W.Frag) (H H' : Hp) : Prop := ∀ b o, H b = some o → b ≠ Pt K → H' b = some o
theorem SmT.refl {H : Hp} : SmT K H H := fun _ _ e _ => e
theorem SmT.trans {H H1 H2 : Hp} (a : SmT K H H1) (b : SmT K H1 H2) : SmT K H H2 := fun c o e n => b c o (a c o e n) n
theorem Same.t {H H' : Hp} (a : Same H H') : SmT K H H' := fun c o e _ => a c o e
theorem Tb.same {H H' : Hp} (t : Tb K H) (s : Same H H') : Tb K H' := by
  obtain ⟨ps, h1, h2, h3⟩ := t
  exact ⟨ps, s _ _ h1, h2, fun pos cv h => by obtain ⟨c, e1, e2⟩ := h3 pos cv h; exact ⟨c, e1, s _ _ e2⟩⟩
theorem SmT.fresh {H H1 : Hp} (c : SmT K H H1) (t1 : Tb K H1) {d : Addr} (h : H1 d = none) : H d = none := by
  cases e : H d with
  | none => rfl
  | some o =>
    by_cases z : d = Pt K
    · obtain ⟨ps, ht, _⟩ := t1
      rw [z, ht] at h
      cases h
    · rw [c d o e z] at h
      cases h
/-- raised: a fault of this kind and place -/
def FltR (K : PySem.W.Frag) (k i : Nat) (H : Hp) (E : XK) : Prop := ∀ d H', H d = none → H' d = some (errO "kind" "place" (.int k) (.int i)) → SmT K H H' → Tb K H' → E (.ref (CF K)) (some d) H'
theorem pmake {X : Cx} {CX : CXT} {k : Nat} {f C : Addr} {ps : List Str} {sp : Sp} {E : XK} {x : Str} {p pos : Pos} {e : Expr} {es : List Expr} {t : TA} (D : DefOk X.prog X.w X.K X.mg X.base CX k f ps sp) (M : Mk X.K C f) (hr : Room (k + 1) X.A) (hm : X.mg x = some (.ref C)) (hx : Passes CX X E) (ha : PA X (e :: es) t) (hg : Gl X x := by rfl) (hdb : (x == ("__debug__" : Str)) = false := by decide)
    (he : starEach (e :: es) X.env = (false, eval e X.env) :: starEach es X.env := by rfl) (hpl : (backTo pos (starEach es X.env)).any (·.1) = false := by rfl) : PE X (.Call (.Name x p) (e :: es) [] pos) (tMake C sp [] E t) := by
  obtain ⟨fd, F, hb, hk⟩ := D.ex
  exact pe_make M F hr hg hm hb .nil hx ha hdb he hpl
theorem pmake0 {X : Cx} {CX : CXT} {k : Nat} {f C : Addr} {ps : List Str} {sp : Sp} {E : XK} {x : Str} {p pos : Pos} (D : DefOk X.prog X.w X.K X.mg X.base CX k f ps sp) (M : Mk X.K C f) (hr : Room (k + 1) X.A) (hm : X.mg x = some (.ref C)) (hx : Passes CX X E) (hg : Gl X x := by rfl) (hdb : (x == ("__debug__" : Str)) = false := by decide) :
    PE X (.Call (.Name x p) [] [] pos) (tMake C sp [] E tNil) := by
  obtain ⟨fd, F, hb, hk⟩ := D.ex
  exact pe_make0 M F hr hg hm hb .nil hx hdb
def spRow (K : PySem.W.Frag) : Sp := fun vs H Q E => ∃ (a : Addr) (t : List Nat), vs = [.ref a] ∧ SqL K H a (vT t) ∧ Tb K H ∧
  (∀ v, readRow t = .ok v → ∀ H' x, SmT K H H' → Tb K H' → RL (nw H H') x v → Q x H') ∧
  (∀ f, readRow t = .error f → FltR K f.kind (t.length - f.left) H E)
theorem sc_row_read : FnScope ["text", "reader", "found"] ["text"] (defScope s_row_read) := ⟨rfl, rfl, rfl, by decide +kernel, rfl, by decide +kernel, by decide +kernel⟩
theorem ok_row_read (T : Txt K mg) (TB : TabB base mg (He.cT K dStr).1 (He.cT K dStr).2) : DefOk P w K mg base (L2.CX P w) 50 (He.ga K "row_read") ["text"] (spRow K) := by
  obtain ⟨fd, F⟩ := dT T defsA (.inl rfl) 23 rfl
  refine ⟨fd, ?_, bind1 F fun _ _ _ _ _ _ _ => rfl, F.kp⟩
  have mlen := T.free "len" (by decide +kernel)
  have nd := sc_row_read.nd
  refine F.okX sc_row_read (fun vs H Q E h => by obtain ⟨a, t, rfl, _⟩ := h; rfl) (fun cdv A outer s H vs Q E hr h => ⟨_,
    (pss_cons (ps_if (pt_cmpR op_gt (pe_callB call_len_seq rfl mlen PySem.boot_len (pa_cons (pv 0) pa_nil)) (pgi (T.int ("MOST_TEXT", 4000) (by decide +kernel))) (nomark _))
      (pss_one (ps_fault rfl (takes_of rfl rfl rfl rfl) T (hr.mono (by omega)) (pa_cons (pgi (T.int ("TOO_LONG_reading", 5) (by decide +kernel))) (pa_cons (pgi (T.int ("MOST_TEXT", 4000) (by decide +kernel))) pa_nil)))) pss_nil)
    (pss_cons (ps_set (i := 1) nd rfl (.inl rfl) (pmake (ok_R_init T) (T.cls "Reader" (by decide +kernel)).2 (hr.mono (by omega)) (T.glo "Reader" (by decide +kernel)) pass0 (pa_cons (pv 0) pa_nil)))
    (pss_cons (ps_if (pt_not (pt_val (pmeth (ok_R_stands T) (pv 1) (tcl T) (tm T "stands" (by decide +kernel)) (hr.mono (by omega)) pass0 (pa_cons (pe_str) pa_nil))))
      (pss_one (ps_fault rfl (takes_of rfl rfl rfl rfl) T (hr.mono (by omega)) (pa_cons (pgi (T.int ("WRONG", 1) (by decide +kernel))) (pa_cons (pe_int) pa_nil)))) pss_nil)
    (pss_cons (ps_set (i := 2) nd rfl (.inl rfl) (pmeth (ok_values T TB 6) (pv 1) (tcl T) (tm T "value" (by decide +kernel)) (hr.mono (by omega)) passE (pa_cons (pe_int) pa_nil)))
    (pss_cons (ps_if (pt_cmpR op_lt (pe_fld (pv 1) rfl) (pe_callB call_len_seq rfl mlen PySem.boot_len (pa_cons (pv 0) pa_nil)) (nomark _))
      (pss_one (ps_fault rfl (takes_of rfl rfl rfl rfl) T (hr.mono (by omega)) (pa_cons (pgi (T.int ("WRONG", 1) (by decide +kernel))) (pa_cons (pe_fld (pv 1) rfl) pa_nil)))) pss_nil)
    (pss_one (ps_ret (pv 2)))))))), ?_⟩)
  obtain ⟨a, t, rfl, hS, tb, q1, q2⟩ := h
  have elr : ((vT t).length : Int) = t.length := by rw [List.length_map]
  refine ⟨_, rfl, a, _, rfl, .inl hS, _, _, rfl, rfl, _, rfl, ifb (fun c => ?_) fun c => ?_⟩
  · rw [elr] at c
    have c' := of_decide_eq_true c
    have e : readRow t = .error { kind := 5, left := t.length - 4000 } := by
      unfold readRow
      rw [if_pos (by show 4000 < t.length; have : (4000 : Int) < t.length := c'; omega)]
      rfl
    refine ⟨fun vs H2 => vs = [.int 5, .int 4000] ∧ H2 = H, ⟨rfl, rfl⟩, ?_⟩
    rintro vs H2 ⟨rfl, rfl⟩
    refine ⟨_, _, rfl, fun d H' hd he s5 => q2 _ e d H' hd ?_ (Same.t s5) (tb.same s5)⟩
    have : t.length - (t.length - 4000) = 4000 := by have : (4000 : Int) < t.length := c'; omega
    rw [this]
    exact he
  · rw [elr] at c
    have hlen : t.length ≤ 5000 := by
      have c' : ¬ (4000 : Int) < t.length := of_decide_eq_false c
      omega
    have c' : ¬ (4000 : Int) < t.length := of_decide_eq_false c
    have c4 : ¬ Vacolo.MOST < t.length := by show ¬ 4000 < t.length; omega
    refine ⟨_, rfl, fun p dx hp0 hdx hne => ?_⟩
    refine ⟨p, dx, a, rfl, upd_same, fun H2 hp2 c2 => ⟨rfl, ?_⟩⟩
    have s02 : Same H H2 := fun b o e => by
      have z1 := ne_of_none e hp0
      have z2 := ne_of_none e hdx
      refine c2 b o ?_ z1
      rw [upd_ne z1, upd_ne z2]
      exact e
    have R2 : RdAt K H2 p a t 0 := ⟨⟨dx, hp2⟩, s02.seq hS, Nat.zero_le _⟩
    have t2 := tb.same s02
    have fr : ∀ (j k : Nat), (∀ f, readRow t = .error f → f.kind = k → t.length - f.left = j → True) → True := fun _ _ _ => trivial
    refine ⟨_, rfl, p, dx, _, rfl, hp2, meth_none _ (by decide +kernel), p, a, t, 0, "{", 123, rfl, rfl, rfl, R2, _, rfl, ifb (fun c => ?_) fun c => ?_⟩
    · have c1 : ¬ signZ t 0 = 123 := by simpa using c
      have e : readRow t = faultAt 1 t := by
        unfold readRow
        rw [if_neg c4, if_pos]
        intro z
        exact c1 (signZ_head (c := 123).mpr z)
      refine ⟨fun vs H3 => vs = [.int 1, .int 0] ∧ H3 = H2, ⟨rfl, rfl⟩, ?_⟩
      rintro vs H3 ⟨rfl, rfl⟩
      refine ⟨_, _, rfl, fun d H' hd he s5 => q2 _ e d H' (Same.fresh s02 hd) ?_ ((Same.t s02).trans (Same.t s5)) (t2.same s5)⟩
      show H' d = some (errO "kind" "place" (.int 1) (.int ((t.length - t.length : Nat) : Int)))
      rw [Nat.sub_self]
      exact he
    · have c1 : signZ t 0 = 123 := by simpa using c
      have hd0 : t.head? = some 123 := signZ_head (i := 0).mp c1
      have er : readRow t = rl 1 t >>= fun x => if x.2 = [] then .ok x.1 else faultAt 1 x.2 := by
        unfold readRow
        rw [if_neg c4, if_neg (fun z => z hd0), rl_is (by omega)]
      have back : ∀ {j : Nat} {H' : Hp}, Now K p a t H2 H' j → SmT K H H' := fun n b o e z => n.ch b o (s02 _ _ e) (ne_of_none e hp0) z
      refine ⟨_, rfl, p, dx, _, rfl, hp2, meth_none _ (by decide +kernel), p, a, t, 0, 1, rfl, by decide, by decide, by decide, trivial, R2, t2, hlen, fun v j he H3 x n3 rx => ?_, fun f he => ?_⟩
      · obtain ⟨dx3, hp3⟩ := n3.rd.ins
        rw [List.drop_zero] at he
        refine ⟨_, rfl, p, _, dx3, _, _, rfl, hp3, tcl T, tna T, rF_at, _, rfl, a, _, rfl, .inl n3.rd.txt, _, _, rfl, rfl, _, rfl, ifb (fun c => ?_) fun c => ?_⟩
        · rw [elr] at c
          have c' := of_decide_eq_true c
          have e : readRow t = faultAt 1 (t.drop j) := er.trans (by
            rw [he]
            show (if t.drop j = [] then _ else _) = _
            rw [if_neg]
            intro z
            have := List.drop_eq_nil_iff.mp z
            omega)
          refine ⟨fun vs H4 => vs = [.int 1, .int j] ∧ H4 = H3, ⟨_, rfl, p, _, dx3, _, _, rfl, hp3, tcl T, tna T, rF_at, rfl, rfl⟩, ?_⟩
          rintro vs H4 ⟨rfl, rfl⟩
          refine ⟨_, _, rfl, fun d H' hd he s5 => q2 _ e d H' (Same.fresh s02 (n3.fresh hd)) ?_ ((back n3).trans (Same.t s5)) (n3.tb.same s5)⟩
          have : t.length - (t.drop j).length = j := by rw [List.length_drop]; omega
          show H' d = some (errO "kind" "place" (.int 1) (.int ((t.length - (t.drop j).length : Nat) : Int)))
          rw [this]
          exact he
        · rw [elr] at c
          have c' := of_decide_eq_false c
          have hj := n3.rd.le
          have e : readRow t = .ok v := er.trans (by
            rw [he]
            show (if t.drop j = [] then _ else _) = _
            rw [if_pos (List.drop_eq_nil_of_le (by omega))])
          exact ⟨_, rfl, q1 v e H3 x (back n3) n3.tb (rx.mono fun c o e sq => by
            obtain ⟨z0, z1⟩ := nw_some e
            rw [nw_of (Same.fresh s02 z0)]
            exact z1)⟩
      · rw [List.drop_zero] at he
        have e : readRow t = .error f := er.trans (by rw [he]; rfl)
        exact fun d H' hd he c t' => q2 f e d H' (Same.fresh s02 hd) he (fun b o z1 z2 => c b o (s02 _ _ z1) (ne_of_none z1 hp0) z2) t'
end SF
end -- R5

section -- X1
set_option Elab.async false
set_option linter.all false
set_option maxRecDepth 100000
set_option maxHeartbeats 2000000
/-! # X1: raising while an exception is handled whose contexts are a chain -/
namespace SF
open PySem PySem.Spec PyProof.Rows L2
/-- the contexts from a value on: at these addresses stand the exceptions -/
inductive Ch (h : Heap) : Value → List Addr → Prop
  | nil : Ch h .none []
  | cons {x : Addr} {o : Obj} {vs : Array Value} {c : Value} {l : List Addr} : h.get? x = some o → o.data = .fields vs → vs[2]? = some c → Ch h c l → Ch h (.ref x) (x :: l)
theorem Ch.uniq {h : Heap} : ∀ {v : Value} {l l' : List Addr}, Ch h v l → Ch h v l' → l = l'
  | _, _, _, .nil, .nil => rfl
  | _, _, _, .cons a1 a2 a3 a4, .cons b1 b2 b3 b4 => by
    have e1 := Option.some.inj (a1.symm.trans b1)
    subst e1
    have e2 : Data.fields _ = Data.fields _ := a2.symm.trans b2
    cases e2
    have e3 := Option.some.inj (a3.symm.trans b3)
    subst e3
    rw [a4.uniq b4]
theorem Ch.keep {h h' : Heap} : ∀ {v : Value} {l : List Addr}, Ch h v l → (∀ b ∈ l, ∀ o, h.get? b = some o → h'.get? b = some o) → Ch h' v l
  | _, _, .nil, _ => .nil
  | _, _, .cons a1 a2 a3 a4, k => .cons (k _ List.mem_cons_self _ a1) a2 a3 (a4.keep fun b hb => k b (List.mem_cons_of_mem _ hb))
theorem Ch.there {h : Heap} : ∀ {v : Value} {l : List Addr}, Ch h v l → ∀ b ∈ l, ∃ o vs, h.get? b = some o ∧ o.data = .fields vs
  | _, _, .nil, b, hb => absurd hb (by simp)
  | _, _, .cons a1 a2 a3 a4, b, hb => by
    rcases List.mem_cons.mp hb with rfl | hb
    · exact ⟨_, _, a1, a2⟩
    · exact a4.there b hb
theorem beq_refs {a b : Addr} (h : a ≠ b) : (Value.ref a == Value.ref b) = false := beq_eq_false_iff_ne.mpr fun e => h (Value.ref.inj e)
section
variable {prog : Program} {w : World}
theorem unch_run {a : Addr} : ∀ (l : List Addr) (o sl : Addr) (ls : List Addr) (b : Bool) (A : Around) (R : Result → Shared → Prop) (s : Shared), Ch s.heap (.ref o) l → Ch s.heap (.ref sl) ls → l.length ≤ ls.length → a ∉ l → R (.ok (.ret .none)) s →
    codeAny (model prog w) A (.builtin "proto.unchain" ⟨[.ref a, .ref o, .ref sl, .bool b], []⟩) R s := by
  intro l
  induction l with
  | nil => intro o sl ls b A R s h; cases h
  | cons x l ih =>
    intro o sl ls b A R s h hs hl ha r
    cases h with
    | cons g1 g2 g3 g4 =>
      refine codeAny_builtin HotX.entry_unchain ?_
      show wpAny _ _ (field (.ref x) 2 >>= _) _ _ s
      refine wpAny_bind (wpAny_field g1 g2 g3 ?_)
      cases g4 with
      | nil =>
        rw [if_pos (show (Value.none == Value.none) = true from rfl)]
        first
        | exact wpAny_bind (wpAny_pure (wpAny_pure r))
        | exact wpAny_pure r
      | @cons y o2 vs2 c2 l2 k1 k2 k3 k4 =>
        have n1 : (Value.ref y == Value.none) = false := rfl
        have hay : a ≠ y := fun z => ha (by rw [z]; simp)
        have n2 : (Value.ref y == Value.ref a) = false := beq_refs (Ne.symm hay)
        have n3 : (Value.ref y == Value.ref sl) = false := by
          refine beq_refs fun z => ?_
          subst z
          have e := hs.uniq (.cons k1 k2 k3 k4)
          rw [e] at hl
          simp only [List.length_cons] at hl
          omega
        simp only [n1, n2, n3, if_neg, Bool.false_eq_true, if_false, pure_bind]
        have hc : Ch s.heap (.ref y) (y :: l2) := .cons k1 k2 k3 k4
        cases b with
        | false =>
          simp only [Bool.false_eq_true, if_false]
          refine wpAny_bind (wpAny_pure (wpAny_pure ⟨Code.quiet_builtin _ (by decide +kernel), ?_⟩))
          exact ih y sl ls true A R s hc hs (by simp at hl ⊢; omega) (fun z => ha (List.mem_cons_of_mem _ z)) r
        | true =>
          simp only [if_true]
          cases hs with
          | @cons _ o3 vs3 c3 l3 q1 q2 q3 q4 =>
            cases q4 with
            | nil => simp at hl
            | @cons z o4 vs4 c4 l4 p1 p2 p3 p4 =>
              refine wpAny_bind (wpAny_field q1 q2 q3 (wpAny_pure ⟨Code.quiet_builtin _ (by decide +kernel), ?_⟩))
              exact ih y z (z :: l4) false A R s hc (.cons p1 p2 p3 p4) (by simp at hl ⊢; omega) (fun z => ha (List.mem_cons_of_mem _ z)) r
variable {A : Around} {E : Value → Shared → Prop} {s : Shared}
/-- the heap behind it: the new exception's context is the handled one -/
abbrev ctxTo (h : Heap) (a x1 : Addr) : Heap := h.update a (Obj.mapFields (·.setIfInBounds 2 (.ref x1)))
theorem raiseNew_ch {α : Type} {a x1 : Addr} {l : List Addr} {oe : Obj} {vs : Array Value} {Q : α → Shared → Prop} (hh : A.handled = some (.ref x1)) (ch : Ch s.heap (.ref x1) l) (na : a ∉ l) (ha : s.heap.get? a = some oe)
    (da : oe.data = .fields vs) (hi : 2 < vs.size) (hE : E (.ref a) { s with heap := ctxTo s.heap a x1 }) : wpAny (model prog w) A (raiseNew (.ref a) : Sem α) Q E s := by
  have n1 : x1 ≠ a := fun z => by
    cases ch
    exact na (by rw [z]; simp)
  have cut : ∀ Q' : Value → Shared → Prop, Q' .none s → wpAny (model prog w) A (holding [Value.ref a] (runValue (.builtin "proto.unchain" ⟨[.ref a, .ref x1, .ref x1, .bool false], []⟩))) Q' E s :=
    fun Q' q => wpAny_holding (wpAny_runValue (unch_run l x1 x1 l false _ _ s ch ch (Nat.le_refl _) na q))
  unfold raiseNew
  refine wpAny_bind (wpAny_handled ?_)
  rw [hh]
  have hb : (Value.ref x1 != Value.ref a) = true := HotX.ref_bne n1
  have go := HotX.chained (prog := prog) (w := w) (A := A) (E := E) (x1 := x1) (Q := fun _ s' => wpAny (model prog w) A (throw (.ref a) : Sem α) Q E s') ha da hi (wpAny_throw hE)
  first
  | (show wpAny _ _ (if (Value.ref x1 != Value.ref a) = true then _ else _) _ _ _
     rw [if_pos hb]
     first
     | exact wpAny_bind (cut _ (wpAny_bind go))
     | exact wpAny_bind (wpAny_bind (cut _ go)))
  | (refine wpAny_bind ?_
     show wpAny _ _ (if (Value.ref x1 != Value.ref a) = true then _ else _) _ _ _
     rw [if_pos hb]
     exact wpAny_bind (cut _ go))
/-- raise e from None, where an exception is handled -/
theorem raise_from_ch {env : Env} {x c : Sem Value} {Q : Flow → Shared → Prop} {x1 : Addr} (hh : A.handled = some (.ref x1)) (hcs : ∀ (s : Shared) (Q' : Value → Shared → Prop), Q' .none s → wpAny (model prog w) A c Q' E s)
    (h : wpAny (model prog w) A x (fun v s1 => ∃ a oe vs cls l, v = .ref a ∧ s1.heap.get? a = some oe ∧ oe.cls = cls ∧ oe.data = .fields vs ∧ vs[1]? = some .none ∧ 4 < vs.size ∧ Ch s1.heap (.ref x1) l ∧ a ∉ l ∧
      PySem.W.Looks (model prog w) s1.heap (isSubtype cls (.type "BaseException")) true ∧ PySem.W.Looks (model prog w) (HotX.noneFrom s1.heap a) (typeOf cls) (.type "type") ∧
      E (.ref a) { s1 with heap := ctxTo (HotX.noneFrom s1.heap a) a x1 }) E s) : wpAny (model prog w) A (raiseStmt env (some x) (some c)) Q E s := by
  unfold raiseStmt
  dsimp only
  refine wpAny_bind (wpAny_mono h (fun v s1 h1 => ?_) fun _ _ q => q)
  obtain ⟨a, oe, vs, cls, l, rfl, ga, gc, gd, g1, gz, ch, na, L1, L2, hE⟩ := h1
  obtain ⟨ga4, gd4⟩ := HotX.noneFrom_at ga gd
  have gd3 := Obj.data_mapFields gd (·.setIfInBounds 3 .none)
  have ga3 := Heap.get?_update_self (Obj.mapFields (·.setIfInBounds 3 .none)) ga (Obj.isFreed_of_fields gd3)
  have z4 : 4 < (vs.setIfInBounds 3 Value.none).size := by rw [HotX.set_size]; exact gz
  have z2 : 2 < ((vs.setIfInBounds 3 Value.none).setIfInBounds 4 (Value.bool true)).size := by rw [HotX.set_size, HotX.set_size]; omega
  have g14 : ((vs.setIfInBounds 3 Value.none).setIfInBounds 4 (Value.bool true))[1]? = some Value.none := HotX.set_other (by decide) (HotX.set_other (by decide) g1)
  have ch4 : Ch (HotX.noneFrom s1.heap a) (.ref x1) l := ch.keep fun b hb o e => by
    rw [HotX.noneFrom_other fun z => na (by rw [z]; exact hb)]
    exact e
  have T1 : PySem.W.Looks (model prog w) s1.heap (typeOf (.ref a)) cls := fun A Q E s k q => wpAny_typeOf_ref (k _ _ ga) (by rw [gc]; exact q)
  have T4 : PySem.W.Looks (model prog w) (HotX.noneFrom s1.heap a) (typeOf (.ref a)) cls := fun A Q E s k q => wpAny_typeOf_ref (k _ _ ga4) (by rw [Obj.cls_mapFields, Obj.cls_mapFields, gc]; exact q)
  have I1 : PySem.W.Looks (model prog w) s1.heap (isInstance (.ref a) (.type "BaseException")) true := T1.andThen L1
  have noType : ∀ (s' : Shared) (o : Obj) (us : Array Value) (Q' : Bool → Shared → Prop), s'.heap.get? a = some o → o.data = .fields us → Q' false s' → wpAny (model prog w) A (isType (.ref a)) Q' E s' := fun s' o us Q' e d q => by
    simp only [isType, loadHead]
    exact wpAny_bind (wpAny_loadPart e (by rw [d]; exact wpAny_pure q))
  -- behind the two stores
  have last : wpAny (model prog w) A (do
      let b ← isType (.ref a)
      if b = true then do
        let e ← holding [.ref a] (raisedFor (.ref a) (.ref a))
        setFlight e none
        raiseNew e
      else do
        let e ← raisedInstance (.ref a)
        setFlight e none
        raiseNew e : Sem Flow) Q E { s1 with heap := HotX.noneFrom s1.heap a } := by
    refine wpAny_bind (noType _ _ _ _ ga4 gd4 ?_)
    rw [if_neg Bool.false_ne_true]
    unfold raisedInstance
    refine wpAny_bind (wpAny_bind (T4.here (wpAny_bind (L2.here ?_))))
    rw [if_pos (show (Value.type "type" == Value.type "type") = true from beq_self_eq_true _)]
    refine wpAny_pure ?_
    unfold setFlight
    refine wpAny_bind (wpAny_bind (wpAny_field ga4 gd4 g14 ?_))
    rw [if_neg (show ¬ (Value.none != Value.none) = true by decide)]
    exact wpAny_pure (raiseNew_ch hh ch4 na ga4 gd4 z2 hE)
  refine wpAny_bind (wpAny_holding (hcs _ _ (wpAny_bind (wpAny_pure ?_))))
  dsimp only
  refine wpAny_bind (wpAny_holding ?_)
  unfold excFromValue isExcClass
  refine wpAny_bind (wpAny_bind (noType _ _ _ _ ga gd ?_))
  rw [if_neg Bool.false_ne_true]
  refine wpAny_pure ?_
  rw [if_neg Bool.false_ne_true]
  refine wpAny_bind (I1.here ?_)
  rw [if_pos rfl]
  refine wpAny_pure ?_
  first
  | rw [if_pos (show (Value.none == Value.none) = true from rfl)]
  | (show wpAny _ _ (if (Value.none == Value.none) = true then _ else _) _ _ _; rw [if_pos (show (Value.none == Value.none) = true from rfl)])
  first
  | exact wpAny_bind (wpAny_pure (wpAny_bind (wpAny_setField ga gd (by omega) (wpAny_bind (wpAny_setField ga3 gd3 z4 last)))))
  | exact wpAny_bind (wpAny_pure (wpAny_bind (wpAny_bind (wpAny_setField ga gd (by omega) (wpAny_bind (wpAny_setField ga3 gd3 z4 last))))))
  | exact wpAny_bind (wpAny_bind (wpAny_pure (wpAny_bind (wpAny_setField ga gd (by omega) (wpAny_setField ga3 gd3 z4 last)))))
end
end SF
end -- X1

section -- X2
set_option Elab.async false
set_option linter.all false
set_option maxRecDepth 100000
set_option maxHeartbeats 2000000
/-! # X2: exceptions whose contexts are a chain: in the air, out of a def -/
namespace SF
open PySem PySem.Spec PyProof.Rows L2
/-- an exception that is a context: its own context is c -/
def CtO (x : Addr) (c : Value) : HO := .ext fun h => ∃ (o : Obj) (vs : Array Value), h.get? x = some o ∧ o.data = .fields vs ∧ vs[2]? = some c
inductive Chn (H : Hp) : Value → List Addr → Prop
  | nil : Chn H .none []
  | cons {x : Addr} {c : Value} {l : List Addr} : H x = some (CtO x c) → Chn H c l → Chn H (.ref x) (x :: l)
theorem Chn.ch {P : Program} {w : World} {H : Hp} {h : Heap} (ok : HOk P w H h) : ∀ {v : Value} {l : List Addr}, Chn H v l → Ch h v l
  | _, _, .nil => .nil
  | _, _, .cons a b => by
    obtain ⟨⟨o, vs, e1, e2, e3⟩, _⟩ := (show ObjOk P w H h _ (CtO _ _) from ok _ _ a)
    exact .cons e1 e2 e3 (b.ch ok)
theorem Chn.keep {H H' : Hp} : ∀ {v : Value} {l : List Addr}, Chn H v l → (∀ x c, H x = some (CtO x c) → H' x = some (CtO x c)) → Chn H' v l
  | _, _, .nil, _ => .nil
  | _, _, .cons a b, k => .cons (k _ _ a) (b.keep k)
theorem Chn.mem {H : Hp} : ∀ {v : Value} {l : List Addr}, Chn H v l → ∀ x ∈ l, H x ≠ none
  | _, _, .nil, x, hx => absurd hx (by simp)
  | _, _, .cons a b, x, hx => by
    rcases List.mem_cons.mp hx with rfl | hx
    · rw [a]
      intro z
      cases z
    · exact b.mem x hx
/-- its context's field -/
def CtxC (c : Value) (o : Obj) : Prop := ∀ vs : Array Value, o.data = .fields vs → vs[2]? = some c
theorem ctxC_steady {c : Value} : PXN.Steady1 (CtxC c) := fun o v h us e => by
  have hf : ∃ vs0, o.data = .fields vs0 ∧ us = vs0.setIfInBounds 1 v := by
    obtain ⟨k1, k2, dt, k3⟩ := o
    cases dt with
    | fields vs0 => exact ⟨vs0, rfl, (Data.fields.inj e).symm⟩
    | _ =>
      exfalso
      first
      | exact Data.noConfusion e
      | cases e
  obtain ⟨vs0, hd, rfl⟩ := hf
  exact HotX.set_other (by decide) (h vs0 hd)
def Zk (cls : Value) (d : Option Addr) (c : Value) : Obj → Prop := fun o => o.cls = cls ∧ o.dict = d ∧ CtxC c o
theorem Zk.steady {cls : Value} {d : Option Addr} {c : Value} : PXN.Steady1 (Zk cls d c) := fun o v h => ⟨PXN.steady_cls o v h.1, PXN.steady_dict o v h.2.1, ctxC_steady o v h.2.2⟩
theorem Zk.zc {cls : Value} {d : Option Addr} {c : Value} {o : Obj} (h : Zk cls d c o) : Zc cls d o := ⟨h.1, h.2.1⟩
/-- behind a call that let an exception out -/
def CXk (P : Program) (w : World) : CXT := fun outer H s E u s' =>
  ∃ (a : Addr) (B : Heap) (H' : Hp) (cls : Value) (d : Option Addr) (c : Value) (l : List Addr), u = .ref a ∧ HandSPX.FlyingZ B outer a (Zk cls d c) s'.heap ∧ HOk P w H' B ∧ UB (frs outer) H H' s.heap B s'.heap ∧ H' a = none ∧ s'.os = s.os ∧ AllBare s'.gens ∧ Chn H' c l ∧ E cls d H'
theorem CXk.plain {P : Program} {w : World} {outer : List Env} {H : Hp} {s s' : Shared} {E : XK} {u : Value} (x : CXk P w outer H s E u s') : L2.CX P w outer H s E u s' := by
  obtain ⟨a, B, H', cls, d, c, l, e, fl, ok, ub, na, os, ag, ch, q⟩ := x
  exact ⟨a, B, H', cls, d, e, L2H.flyingZ_imp (fun o z => z.zc) fl, ok, ub, na, os, ag, q⟩
theorem CXk.of {P : Program} {w : World} {outer : List Env} {H : Hp} {s s' : Shared} {E : XK} {u : Value} (x : L2N.CX P w outer H s E u s') : CXk P w outer H s E u s' := by
  obtain ⟨a, B, H', cls, d, e, fl, ok, ub, na, os, ag, q⟩ := x
  exact ⟨a, B, H', cls, d, .none, [], e, L2H.flyingZ_imp (fun o z => ⟨z.1, z.2.1, z.2.2⟩) fl, ok, ub, na, os, ag, .nil, q⟩
section
variable {X : Cx} {pins : List (Addr × Obj)} {σ : L2.St} {H : Hp} {s s' : Shared} {E : XK} {W : WX}
/-- in the air of X -/
def XEk (X : Cx) (W : WX) (u : Value) (s' : Shared) : Prop :=
  ∃ (a : Addr) (B : Heap) (sI : Shared) (pins : List (Addr × Obj)) (σ : L2.St) (H : Hp) (cls : Value) (d : Option Addr) (c : Value) (l : List Addr),
    u = .ref a ∧ Inv X pins σ H sI ∧ (∀ b o, sI.heap.get? b = some o → b ∉ frs X.stack → B.get? b = some o) ∧ sI.heap.UpToSlots s'.heap ∧
      Sky B X.stack a (Zk cls d c) X.env.locals s'.heap ∧ H a = none ∧ s'.os = sI.os ∧ AllBare s'.gens ∧ Chn H c l ∧ W cls d σ H
theorem XEk.call (I : Inv X pins σ H s) (hW : ∀ cls d H', E cls d H' → W cls d σ H') {u : Value} (x : CXk X.prog X.w X.stack H s E u s') : XEk X W u s' := by
  obtain ⟨a, B, H', cls, d, c, l, rfl, fl, ok, ub, na, os, ag, ch, q⟩ := x
  -- the ground and the frames' objects alone
  obtain ⟨G, in_, out_⟩ := restrict s'.heap fun b => (B.get? b).isSome || decide (b ∈ frs X.stack)
  have ground : ∀ b o, B.get? b = some o → G.get? b = some o := fun b o e => (in_ b (by rw [e]; rfl)).trans (fl.1 b o e)
  have frame : ∀ b, b ∈ frs X.stack → G.get? b = s'.heap.get? b := fun b hb => in_ b (by rw [decide_eq_true hb, Bool.or_true])
  have back : ∀ b o, G.get? b = some o → s'.heap.get? b = some o ∧ ((B.get? b).isSome = true ∨ b ∈ frs X.stack) := fun b o e => by
    by_cases z : ((B.get? b).isSome || decide (b ∈ frs X.stack)) = true
    · refine ⟨(in_ b z).symm.trans e, ?_⟩
      rcases Bool.or_eq_true_iff.mp z with z | z
      · exact .inl z
      · exact .inr (of_decide_eq_true z)
    · rw [out_ b (by simpa using z)] at e
      cases e
  have J : Inv X pins σ H' { s with heap := G, gens := s'.gens, drawn := s'.drawn, toks := s'.toks } := by
    refine I.call (ch := []) ⟨fun b o e n hb _ => ground b o (ub.keep b o e n hb), ?_, fun b o e n _ => ub.free b o e n, ?_, ub.tups, ub.frzs, ub.tbls⟩ (ok.kept ground) ag (fun _ z => nomatch z)
    · intro b o e n hb _
      obtain ⟨sl, z⟩ := ub.slot b o e hb
      exact ⟨sl, (frame b hb).trans z⟩
    · intro b o e _
      by_cases hb : b ∈ frs X.stack
      · obtain ⟨sl, z⟩ := ub.slot b o e hb
        exact ⟨_, (frame b hb).trans z⟩
      · obtain ⟨o', z⟩ := ub.there b o e hb
        exact ⟨o', ground b o' z⟩
  refine ⟨a, B, _, pins, σ, H', cls, d, c, l, rfl, J, fun b o e hb => ?_, Heap.UpToSlots.of_keeps fun b o e => (back b o e).1, .inr (.inl fl), na, os, ag, ch, hW _ _ _ q⟩
  obtain ⟨e', z | z⟩ := back b o e
  · obtain ⟨o', z⟩ := Option.isSome_iff_exists.mp z
    have e2 := fl.1 b o' z
    rw [e'] at e2
    cases e2
    exact z
  · exact (hb z).elim
theorem XEk.leave (hs : X.stack = X.env :: X.outer) (hf : X.env.frame = some X.env.locals) (hex : X.ex = []) {E1 : Value → Shared → Prop} (hW : ∀ cls d σ H, W cls d σ H → E cls d H) {u : Value} (x : XEk X W u s') :
    wpAny (model X.prog X.w) X.A (leaving X.env u) (fun _ s2 => CXk X.prog X.w X.outer X.H_0 X.s_0 E u s2) E1 s' := by
  obtain ⟨a, B, sI, pins, σ, H, cls, d, c, l, rfl, I, nb, up, sky, na, os, ag, ch, q⟩ := x
  have hfr : X.A.frames = some (X.env :: X.outer) := I.ok.frames.trans (by rw [hs])
  have noex : ∀ b, b ∉ X.ex := by
    rw [hex]
    exact fun b => List.not_mem_nil
  -- the frames of the stack are X's own or lie below it
  have apart : ∀ b o, X.s_0.heap.get? b = some o → b ∉ X.fs → b ∉ frs X.stack := fun b o e hb hm => by
    rcases List.mem_cons.mp (I.stkSub b hm) with z | z
    · have lt := Heap.lt_size e
      have le := I.ok.above
      rw [z] at lt
      exact (Nat.lt_irrefl _ (Nat.lt_of_lt_of_le lt le)).elim
    · exact hb z
  have okB := I.inGround nb
  have done : ∀ h', HandSPX.FlyingZ B X.outer a (Zk cls d c) h' → s'.heap.UpToSlots h' → CXk X.prog X.w X.outer X.H_0 X.s_0 E (.ref a) { s' with heap := h' } := fun h' fl up' => by
    have U : UB (frs X.outer) X.H_0 H X.s_0.heap B h' := {
      keep := fun b o e n hb => nb b o (I.base.keep b o e n hb (noex b)) (apart b o e hb)
      slot := fun b o e hb => by
        obtain ⟨_, o1, e1, nf⟩ := I.ok.funs.mem hb
        rw [e] at e1
        cases e1
        obtain ⟨sl, z1⟩ := I.base.slot b o e (I.ok.frf b hb) hb (noex b)
        obtain ⟨sl2, z2⟩ := up b _ z1 nf
        obtain ⟨sl3, z3⟩ := up' b _ z2 nf
        exact ⟨sl3, z3⟩
      free := fun b o e n => I.base.free b o e n (noex b)
      there := fun b o e hb => by
        obtain ⟨o', z⟩ := I.base.there b o e (noex b)
        exact ⟨o', nb b o' z (apart b o e hb)⟩
      tups := I.base.tups
      frzs := I.base.frzs
      tbls := I.base.tbls }
    exact ⟨a, B, H, cls, d, c, l, rfl, fl, okB, U, na, os.trans I.os, ag, ch, hW _ _ _ _ q⟩
  rw [hs] at sky
  rcases sky with ⟨hB, hn, hl, oe, vs, he, hz, hd, h1⟩ | fl | hd
  · exact PXN.leaving_firstZ Zk.steady hfr hl hf he hB hn hd h1 hz done
  · exact PXN.leaves_onZ Zk.steady hfr hf fl done
  · exact HandSPX.leaves_heldZ hf hd done
/-- within a def that may let such exceptions out -/
def Outk (X : Cx) (E : XK) : Prop := ∃ E1 : Value → Shared → Prop, X.xe = fun e s' => wpAny (model X.prog X.w) X.A (leaving X.env e) (fun _ s2 => CXk X.prog X.w X.outer X.H_0 X.s_0 E e s2) E1 s'
theorem passk (hs : X.stack = X.env :: X.outer) (hf : X.env.frame = some X.env.locals) (hex : X.ex = []) (hx : Outk X E) : Passes (CXk X.prog X.w) X E := by
  obtain ⟨E1, hx⟩ := hx
  intro pins σ H s e s' I x
  rw [hx]
  exact XEk.leave (W := fun cls d _ H => E cls d H) hs hf hex (fun _ _ _ _ q => q) (XEk.call I (fun _ _ _ q => q) x)
theorem takesN (hs : X.stack = X.env :: X.outer) (hf : X.env.frame = some X.env.locals) (hex : X.ex = []) (hx : Outk X E) : L2N.Takes X fun cls d _ H => E cls d H := by
  obtain ⟨E1, hx⟩ := hx
  intro u s' x
  rw [hx]
  exact wpAny_mono (L2N.XE.leave (W := fun cls d _ H => E cls d H) (E := E) hs hf hex (fun _ _ _ _ q => q) x) (fun _ _ q => CXk.of q) fun _ _ q => q
end
end SF
end -- X2

section -- X3
set_option Elab.async false
set_option linter.all false
set_option maxRecDepth 100000
set_option maxHeartbeats 2000000
/-! # X3: an own error made and raised, where nothing is handled and where something is -/
namespace SF
open PySem PySem.Spec PyProof.Rows L2
open L2H (RoomH PinOk cxH PMk5)
section
variable {P : Program} {w : World} {K : PySem.W.Frag} {mg : Str → Option Value} {base : Heap} {CX : CXT} {k : Nat} {f : Addr} {ps : List Str} {sp : Sp}
/-- a def that keeps its promise whatever is handled -/
structure FnA (P : Program) (w : World) (K : PySem.W.Frag) (mg : Str → Option Value) (base : Heap) (CX : CXT) (k : Nat) (f : Addr) (fd : FuncData) (ps : List Str) (sp : Sp) : Prop where
  len : ∀ vs H Q E, sp vs H Q E → vs.length = ps.length
  run : ∀ (A : Around) (outer : List Env) (s : Shared) (H : Hp) (args : Args) (us : List Value) (vs : List V) (Q : VK) (E : XK) (p : Addr × Obj), RoomH k A → PinOk outer H s p → Env0 P w K mg base A outer s H → BindsTo s fd args (ps.zip us) →
    Vals vs us → sp vs H Q E → codeAny (model P w) A (.call (.ref f) args) (L2.CR CX outer P w H s Q E) s
theorem fnA_of {name qual : Str} {params : Arguments} {body : List Stmt} {scope : Scope} {dV kV doc pm cdv ct oc : Value} {an od : Option Addr} {osl : Array (Option Value)} {N : List Str}
    (lk : K.lookup f = some ⟨oc, od, .func (PySem.W.fnOf name qual params body scope dV kV doc pm an cdv ct), osl⟩) (hcd : PySem.W.codeIn K cdv qual = true) (S : FnScope N ps scope) (len : ∀ vs H Q E, sp vs H Q E → vs.length = ps.length)
    (hbody : ∀ (A : Around) (outer : List Env) (s : Shared) (H : Hp) (vs : List V) (Q : VK) (E : XK) (p : Addr × Obj), sp vs H Q E →
      ∃ t, PSs (cxH CX P w K mg base N qual scope f cdv A outer s H E p) body t ∧ t { nx := fun _ H' => Q .non H', rt := Q } (start N vs) H) :
    FnA P w K mg base CX (k + 1) f (PySem.W.fnOf name qual params body scope dV kV doc pm an cdv ct) ps sp := by
  refine ⟨len, fun A outer s H args us vs Q E p hr hpin e0 hb r q => ?_⟩
  have kin : K.In s.heap := e0.mod.kin.keeps fun b o e => (e0.bs b o e).1
  have nolim : s.heap.NoLimit := e0.mod.nolimit.keeps fun b o e => (e0.bs b o e).1
  have kinds : ∀ y ∈ ps.zip us, scope.names.lookup y.1 = some .local ∨ (scope.names.lookup y.1 = some .cell ∧ ((cellsFrom (s.heap.objs.size + 1) scope.names []).lookup y.1).isSome = true) := by
    rintro ⟨n, v⟩ hy
    refine (S.par n (List.of_mem_zip hy).1).imp id fun z => ⟨z, ?_⟩
    exact PySem.W.cellsFrom_some _ _ _ (.inl z)
  refine codeAny_call_function hr.depth (kin _ _ lk) rfl S.co S.gen rfl (PySem.W.codeRec_of kin hcd) (hb _ _ _ _ (wpAny_newFunctionEnv_cells S.kind kinds fun env he s1 x => ?_))
  subst he
  obtain ⟨t, ht, hq⟩ := hbody A outer s H vs Q E p q
  have I := L2H.inv_startH (CX := CX) (E := E) (qual := qual) (f := f) (cd := cdv) S hpin e0 (len _ _ _ _ q) r x
  refine ⟨nolim.keeps x.toInCall.keep, codeAny_func (wpAny_mono (ht.run [] s1 (start N vs) H _ I hq) (fun fl s' hs => ?_) fun e s' hs => hs)⟩
  cases fl with
  | ret u =>
    obtain ⟨v, σ', H', J, rv, q⟩ := hs
    exact ⟨v, H', J.os, J.bare, J.base, J.hok, rv, q⟩
  | next =>
    obtain ⟨σ', H', J, q⟩ := hs
    exact ⟨V.non, H', J.os, J.bare, J.base, J.hok, rfl, q⟩
  | brk => exact hs.elim fun _ z => z.elim fun _ z => z.2.elim
  | cont => exact hs.elim fun _ z => z.elim fun _ z => z.2.elim
end
/-- C(e, ..), C's own __init__ run as it may be -/
theorem pmk_run {X : Cx} {CX : CXT} {x : Str} {e : Expr} {es : List Expr} {ta : TA} {p pos : Pos} {C fI : Addr} {fd : FuncData} {ps : List Str} {sp : Sp} (T : OexC X.K C) (iC : PySem.W.findIn X.K (.ref C) "__init__" = some (some (.ref fI)))
    (tI : PySem.W.typeIn X.K (.ref fI) = some (.type "function")) (len : ∀ vs H Q E, sp vs H Q E → vs.length = ps.length) (hb : Binds X.K fd ps [])
    (run : ∀ (pins : List (Addr × Obj)) (σ : L2.St) (s : Shared) (H : Hp) (us0 us : List Value) (vs : List V) (Q : VK), Inv X pins σ H s → BindsTo s fd ⟨us, []⟩ (ps.zip us) → Vals vs us → sp vs H Q (fun _ _ _ => False) →
      codeAny (model X.prog X.w) (X.A.under (.builtin "type.__call__" ⟨.ref C :: us0, []⟩)) (.call (.ref fI) ⟨us, []⟩) (L2.CR CX X.stack X.prog X.w H s Q (fun _ _ _ => False)) s)
    (hx : Passes CX X (fun _ _ _ => False)) (hg : Gl X x) (hm : X.mg x = some (.ref C)) (ha : PA X (e :: es) ta) (hdb : (x == ("__debug__" : Str)) = false := by decide)
    (he : starEach (e :: es) X.env = (false, eval e X.env) :: starEach es X.env := by rfl) (hpl : (backTo pos (starEach es X.env)).any (·.1) = false := by rfl) : PMk5 X (.Call (.Name x p) (e :: es) [] pos) (tMkO C sp [] ta) := by
  intro pins s σ H Q I h
  obtain ⟨nm, q, N, bs, bm, sn, sub, ab, col, dd, k0, k1, k2, k3, k5, hC, hbm⟩ := T.cls
  refine wpAny_Call_Name_kw (ld_glob I hg hm (PySem.W.callWith_K (h₀ := X.base) I.ok.mod.kin T.kC (thn (ha.run pos pins s σ H _ I h) fun us s1 hu => ?_) he hpl) hdb)
  obtain ⟨vs, H1, I1, r1, hz, q1⟩ := hu
  refine ⟨I1.kIn, ?_⟩
  show wpAny _ _ (call (.ref C) us) _ _ _
  obtain ⟨hp, g, dr, tk, os⟩ := s1
  -- where the new exception stands
  generalize ha1 : hp.objs.size + 1 = a
  have le : hp.objs.size ≤ a := by omega
  have keep : ∀ b o, hp.get? b = some o → ((hp.push (PySem.W.kdv_tup us)).push (PySem.HandSPX.excO C hp.objs.size)).get? b = some o := fun b o z => Heap.get?_push_of_some _ (Heap.get?_push_of_some _ z)
  have there : ((hp.push (PySem.W.kdv_tup us)).push (PySem.HandSPX.excO C hp.objs.size)).get? a = some (PySem.HandSPX.excO C hp.objs.size) := by
    rw [← ha1]
    heap_get
  have hq := q1 a (I1.hok.fresh le)
  rw [List.append_nil] at hq
  have I2 : Inv X pins σ (upd H1 a (exo a C none)) ⟨(hp.push (PySem.W.kdv_tup us)).push (PySem.HandSPX.excO C hp.objs.size), g, dr, tk, os⟩ := I1.laid (t' := tk) keep le (exo_ok there)
  have r2 : Vals (V.ref a :: vs) (Value.ref a :: us) := .cons rfl r1
  have hl : (Value.ref a :: us).length = ps.length := r2.length.symm.trans (len _ _ _ _ hq)
  have few : us.length ≤ sizeLine := by
    have := Paired.length r1
    have := sizeLine_eq
    omega
  have b2 := hb _ (Value.ref a :: us) I2.kIn (by rw [List.append_nil]; exact hl)
  rw [List.append_nil] at b2
  subst ha1
  refine wpAny_call (PySem.HandSPX.call_own F.excBase_ValueError (fun Y => PySem.HandSPX.refsVE_contains Y bm hbm) (I1.kIn _ _ hC) (PySem.W.looks_findIn I1.kIn iC) (fun self => PySem.W.bind_fn I1.kIn self tI) few
    (codeAny_mono (run pins σ _ _ us (Value.ref (hp.objs.size + 1) :: us) _ _ I2 b2 r2 hq) fun r s' hr => ?_))
  cases r with
  | error er => exact hx pins σ _ _ er s' I2 hr
  | ok fl =>
    cases fl with
    | ret u =>
      obtain ⟨v, H2, os2, bare2, un2, ok2, rv, ev, d, fs, ea, ed, nd, q2⟩ := hr
      subst ev
      obtain ⟨h2, g2, d2, t2, os'⟩ := s'
      obtain ⟨t0, G, J, kG, ge, hoe, na⟩ := mk_end0 (d2 := d2) (t2 := t2) I1 le keep un2 ok2 os2 bare2 ea ed nd
      refine ⟨rv, ⟨hp.objs.size + 1, _, _, ⟨G, g2, d2, t2, os'⟩, _, .ref C, some d, rfl, J, kG, ge, hoe, ⟨rfl, rfl, fun us2 z => ?_⟩, rfl, rfl, na, rfl, bare2, raises_own T.exC T.tyC, q2⟩, ?_⟩
      · cases z
        rfl
      · intro a2 o2 us2 z1 z2 z3
        cases z1
        have z4 := (show h2.get? (hp.objs.size + 1) = some o2 from z2).symm.trans hoe
        cases z4
        cases z3
        show 4 < 6
        decide
    | next => exact hr.elim
    | brk => exact hr.elim
    | cont => exact hr.elim
end SF
end -- X3

section -- X4
set_option Elab.async false
set_option linter.all false
set_option maxRecDepth 100000
set_option maxHeartbeats 2000000
/-! # X4: try: .. except C as n: raise .. from None, contexts a chain -/
namespace SF
open PySem PySem.Spec PyProof.Rows L2
open L2H (RoomH PinOk cxH PMk5)
section
variable {X : Cx} {σ : L2.St} {H : Hp} {s : Shared}
/-- an untracked object of the heap is tracked -/
theorem inv_track {a : Addr} {o : Obj} {u : HO} (hpn : X.pn = []) (I : Inv X [] σ H s) (ha : s.heap.get? a = some o) (hnc : ∀ v, o.data ≠ .cell v) (na : H a = none) (n0 : X.s_0.heap.get? a = none) (nL : a ≠ X.env.locals)
    (ok : ObjOk X.prog X.w (upd H a u) s.heap a u) : Inv X [] σ (upd H a u) s := by
  have other : ∀ b z, H b = some z → upd H a u b = some z := fun b z e => (upd_ne (ne_of_none e na)).trans e
  refine ⟨I.ok, I.os, I.bare, ⟨I.base.keep, I.base.slot, fun b ob e n hx => ?_, I.base.there, fun b xs e => other _ _ (I.base.tups b xs e), fun b ob z e => other _ _ (I.base.frzs b ob z e), fun b ps e => ?_⟩, I.loc, I.cell, ?_, fun x c e => ?_, fun p hp => ?_, fun b z e => ?_, I.len⟩
  · rw [upd_ne fun z => ?_]
    · exact I.base.free b ob e n hx
    · rw [z, n0] at e
      cases e
  · obtain ⟨more, q⟩ := I.base.tbls b ps e
    exact ⟨more, other _ _ q⟩
  · rw [upd_ne (Ne.symm nL)]
    exact I.free
  · rw [upd_ne fun z => ?_]
    · exact I.freeC x c e
    · obtain ⟨v, oc, e1, e2⟩ := I.cell x c e
      rw [z, ha] at e1
      cases e1
      exact hnc v e2
  · rw [hpn] at hp
    cases hp
  · by_cases hb : b = a
    · subst hb
      rw [upd_same] at e
      cases e
      exact ok
    · rw [upd_ne hb] at e
      exact (I.hok b z e).stay (fun _ _ _ y => y) (fun c q => other _ _ q) fun c xs q => other _ _ q
/-- a fresh exception raised where a's is handled -/
def XEn (Y : Cx) (W : Value → Option Addr → Hp → Prop) (a : Addr) (ctx : Value) (u : Value) (s' : Shared) : Prop :=
  ∃ (n : Addr) (oe : Obj) (vs : Array Value) (sI : Shared) (pins : List (Addr × Obj)) (σ : L2.St) (H : Hp) (cls : Value) (d : Option Addr) (l : List Addr), u = .ref n ∧ Inv Y pins σ H sI ∧ (∀ b o, sI.heap.get? b = some o → s'.heap.get? b = some o) ∧
    sI.heap.get? n = none ∧ s'.heap.get? n = some oe ∧ Zk cls d (.ref a) oe ∧ oe.data = .fields vs ∧ vs[1]? = some .none ∧ H n = none ∧ s'.os = sI.os ∧ AllBare s'.gens ∧ Chn H ctx l ∧ W cls d H
/-- raise e from None within the suite -/
theorem ps_raise_ch {Y : Cx} {W : Value → Option Addr → Hp → Prop} {e : Expr} {t : L2.St → Hp → XK → Prop} {j : Nat} {cpos pos : Pos} {a : Addr} {oa : Obj} {va : Array Value} {ctx : Value} (hh : Y.A.handled = some (.ref a)) (hp : (a, oa) ∈ Y.pn) (da : oa.data = .fields va)
    (ca : CtxC ctx oa) (hx : ∀ u s', XEn Y W a ctx u s' → Y.xe u s') (he : PMk5 Y e t) :
    PS Y (.Raise (some e) (some (.Constant .none j cpos)) pos) (fun _ σ H => t σ H fun cls d H' => (∃ l, Chn H' ctx l) ∧ W cls d H') := by
  refine ⟨fun pins s σ H D I h => ?_⟩
  show wpAny _ _ (do standAt pos; raiseStmt Y.env (some (do let v ← eval e Y.env; standAt pos; pure v)) (some (do let v ← eval (.Constant .none j cpos) Y.env; standAt pos; pure v))) _ _ _
  have none_ : ∀ (s2 : Shared) (Q2 : Value → Shared → Prop), Q2 .none s2 → wpAny (model Y.prog Y.w) Y.A (do let v ← eval (.Constant .none j cpos) Y.env; standAt pos; pure v) Q2 Y.xe s2 := fun s2 Q2 q => wpAny_bind (Constant_none (wpAny_bind (wpAny_standAt (wpAny_pure q))))
  refine wpAny_bind (wpAny_standAt (raise_from_ch hh none_ (wpAny_bind (wpAny_mono (he pins s σ H _ I h) (fun u s1 hu => wpAny_bind (wpAny_standAt (wpAny_pure ?_))) fun _ _ x => x))))
  obtain ⟨⟨n, oe, vs, sI, H', cls, d, rfl, J, k, hne, hn, hz, hd, h1, nn, os, ag, r, ⟨l, ch⟩, q⟩, h5⟩ := hu
  have z4 : 4 < vs.size := h5 n oe vs rfl hn hd
  have P1 := J.pin (a, oa) (List.mem_append_left _ hp)
  have na : n ≠ a := fun z => by
    have := P1.1
    rw [← z, hne] at this
    cases this
  have nl : n ∉ l := fun z => ch.mem n z nn
  have chH : Ch s1.heap (.ref a) (a :: l) := .cons (k _ _ P1.1) da (ca va da) ((ch.ch J.hok).keep fun b _ o e => k b o e)
  have k4 : ∀ b u, sI.heap.get? b = some u → (HotX.noneFrom s1.heap n).get? b = some u := fun b u z => by
    rw [HotX.noneFrom_other fun y => ?_]
    · exact k b u z
    · rw [← y, hne] at z
      cases z
  obtain ⟨r1, _⟩ := r (model Y.prog Y.w) s1.heap (J.kIn.keeps k)
  obtain ⟨_, r2⟩ := r (model Y.prog Y.w) (HotX.noneFrom s1.heap n) (J.kIn.keeps k4)
  obtain ⟨g4, d4⟩ := HotX.noneFrom_at hn hd
  have z2 : 2 < ((vs.setIfInBounds 3 Value.none).setIfInBounds 4 (Value.bool true)).size := by rw [HotX.set_size, HotX.set_size]; omega
  have dN := Obj.data_mapFields d4 (·.setIfInBounds 2 (Value.ref a))
  refine ⟨n, oe, vs, cls, a :: l, rfl, hn, hz.1, hd, h1, z4, chH, fun z => (List.mem_cons.mp z).elim na nl, r1, r2, hx _ _ ?_⟩
  refine ⟨n, _, _, sI, pins, σ, H', cls, d, l, rfl, J, fun b u z => ?_, hne, Heap.get?_update_self _ g4 (Obj.isFreed_of_fields dN), ⟨?_, ?_, fun us e => ?_⟩, dN, ?_, nn, os, ag, ch, q⟩
  · show (ctxTo (HotX.noneFrom s1.heap n) n a).get? b = some u
    rw [Heap.get?_update_other _ _ fun y => ?_]
    · exact k4 b u z
    · rw [← y, hne] at z
      cases z
  · rw [Obj.cls_mapFields, Obj.cls_mapFields, Obj.cls_mapFields]
    exact hz.1
  · rw [HandSPX.dict_mapFields, HandSPX.dict_mapFields, HandSPX.dict_mapFields]
    exact hz.2.1
  · rw [dN] at e
    cases e
    exact Array.getElem?_setIfInBounds_self_of_lt z2
  · exact HotX.set_other (by decide) (HotX.set_other (by decide) (HotX.set_other (by decide) h1))
end
end SF
end -- X4

section -- X5
set_option Elab.async false
set_option linter.all false
set_option maxRecDepth 100000
set_option maxHeartbeats 2000000
/-! # X5: the try statement whose suite raises on -/
namespace SF
open PySem PySem.Spec PyProof.Rows L2
open L2H (RoomH PinOk cxH PMk5 suiteX)
/-- held at a frame: the frame's own namespace may change -/
theorem held_keep {B h h' : Heap} {l : List Env} {e L : Addr} {Z : Obj → Prop} {o' : Obj} (x : HandSPX.HeldZ B l e Z L h) (nB : B.get? L = none) (k : ∀ b, b ≠ L → h'.get? b = h.get? b) (hL : h'.get? L = some o') (nf' : ∀ vs, o'.data ≠ .fields vs) (o : Obj) (hL0 : h.get? L = some o) (nf : ∀ vs, o.data ≠ .fields vs) : HandSPX.HeldZ B l e Z L h' := by
  obtain ⟨x1, x2, x3, oe, vs, T, oT, ts, t1, t2, t3, t4, t5, t6, t7, t8, t9⟩ := x
  have ne1 : e ≠ L := fun z => by
    rw [z, hL0] at t1
    cases t1
    exact nf _ t3
  have ne2 : T ≠ L := fun z => by
    rw [z, hL0] at t7
    cases t7
    exact nf _ t8
  refine ⟨fun b ob q => ?_, x2, ?_, oe, vs, T, oT, ts, (k e ne1).trans t1, t2, t3, t4, t5, t6, (k T ne2).trans t7, t8, t9⟩
  · rw [k b fun z => ?_]
    · exact x1 b ob q
    · rw [z, nB] at q
      cases q
  · have go : ∀ l : List Env, h.FunFrames B l → h'.FunFrames B l := by
      intro l
      induction l with
      | nil => exact fun q => q
      | cons env l ih =>
        rintro ⟨q1, ⟨L1, o1, f1, f2, f3, f4⟩, q3⟩
        refine ⟨q1, ?_, ih q3⟩
        by_cases z : L1 = L
        · exact ⟨L1, o', f1, f2, z ▸ hL, nf'⟩
        · exact ⟨L1, o1, f1, f2, (k L1 z).trans f3, f4⟩
    exact go l x3
section
variable {X : Cx} {E : XK} {s' : Shared}
/-- what leaves a def's frame from there -/
theorem leave_held (hs : X.stack = X.env :: X.outer) (hf : X.env.frame = some X.env.locals) (hex : X.ex = []) {E1 : Value → Shared → Prop} {a : Addr} {B : Heap} {sI : Shared} {pins : List (Addr × Obj)} {σ : L2.St} {H : Hp} {cls : Value} {d : Option Addr} {c : Value} {l : List Addr}
    (I : Inv X pins σ H sI) (nb : ∀ b o, sI.heap.get? b = some o → b ∉ frs X.stack → B.get? b = some o) (up : ∀ b o, b ≠ X.env.locals → sI.heap.get? b = some o → (∀ vs, o.data ≠ .fields vs) → ∃ sl, s'.heap.get? b = some { o with slots := sl })
    (hd : HandSPX.HeldZ B (X.env :: X.outer) a (Zk cls d c) X.env.locals s'.heap) (na : H a = none) (os : s'.os = sI.os) (ag : AllBare s'.gens) (ch : Chn H c l) (q : E cls d H) :
    wpAny (model X.prog X.w) X.A (leaving X.env (.ref a)) (fun _ s2 => CXk X.prog X.w X.outer X.H_0 X.s_0 E (.ref a) s2) E1 s' := by
  have noex : ∀ b, b ∉ X.ex := by
    rw [hex]
    exact fun b => List.not_mem_nil
  have old : ∀ b o, X.s_0.heap.get? b = some o → b ≠ X.env.locals := fun b o e z => by
    have lt := Heap.lt_size e
    have le := I.ok.above
    rw [z] at lt
    exact (Nat.lt_irrefl _ (Nat.lt_of_lt_of_le lt le)).elim
  have apart : ∀ b o, X.s_0.heap.get? b = some o → b ∉ X.fs → b ∉ frs X.stack := fun b o e hb hm => (List.mem_cons.mp (I.stkSub b hm)).elim (old b o e) hb
  have okB := I.inGround nb
  refine HandSPX.leaves_heldZ hf hd fun h' fl up' => ?_
  have U : UB (frs X.outer) X.H_0 H X.s_0.heap B h' := {
    keep := fun b o e n hb => nb b o (I.base.keep b o e n hb (noex b)) (apart b o e hb)
    slot := fun b o e hb => by
      obtain ⟨_, o1, e1, nf⟩ := I.ok.funs.mem hb
      rw [e] at e1
      cases e1
      obtain ⟨sl, z1⟩ := I.base.slot b o e (I.ok.frf b hb) hb (noex b)
      obtain ⟨sl2, z2⟩ := up b _ (old b o e) z1 nf
      obtain ⟨sl3, z3⟩ := up' b _ z2 nf
      exact ⟨sl3, z3⟩
    free := fun b o e n => I.base.free b o e n (noex b)
    there := fun b o e hb => by
      obtain ⟨o', z⟩ := I.base.there b o e (noex b)
      exact ⟨o', nb b o' z (apart b o e hb)⟩
    tups := I.base.tups
    frzs := I.base.frzs
    tbls := I.base.tbls }
  exact ⟨a, B, H, cls, d, c, l, rfl, fl, okB, U, na, os.trans I.os, ag, ch, q⟩
end
section
variable {X : Cx} {x n : Str} {c : Value} {i : Nat} {body suite : List Stmt} {b₀ : Stmt} {np pos pos' : Pos} {tb : WX → TS} {ts : Addr → Value → Option Addr → Value → TS} {E : XK}
/-- what the clause wishes of an exception of the body: slot i is n's -/
def wCh (K : PySem.W.Frag) (c : Value) (i : Nat) (ts : Addr → Value → Option Addr → Value → TS) : WX := fun cls d σ H =>
  PySem.W.exmOne K cls c = some true ∧ ∀ a ctx l, H a = none → Chn H ctx l → ts a cls d ctx { nx := fun _ _ => False, rt := fun _ _ => False } (σ.set i (some (.ref a))) H
/-- what of what is raised in the suite leaves the def -/
def wOutCh (E : XK) (a : Addr) (ctx : Value) : Value → Option Addr → Hp → Prop := fun cls d H => H a = none → E cls d (upd H a (CtO a ctx))
theorem ps_try_ch (hpn : X.pn = []) (hs : X.stack = X.env :: X.outer) (hf : X.env.frame = some X.env.locals) (hex : X.ex = []) (hN : X.N.Nodup) (hi : X.N[i]? = some n) (hln : X.env.kindOf n = some .local) (hc : Names X x c) (hx : Outk X E)
    (hb : ∀ (W : WX) (pn : List (Addr × Obj)) (xe : Value → Shared → Prop), (∀ u s', XEk (X.tr pn xe) W u s' → xe u s') → PSs (X.tr pn xe) body (tb W))
    (hsu : ∀ (a : Addr) (oe : Obj) (cls : Value) (d : Option Addr) (ctx : Value) (pn : List (Addr × Obj)) (xe : Value → Shared → Prop), Zk cls d ctx oe → (∃ vs, oe.data = .fields vs) →
      (∀ u s', XEn { suiteX X a ((a, oe) :: pn) with xe := xe } (wOutCh E a ctx) a ctx u s' → xe u s') → PSs { suiteX X a ((a, oe) :: pn) with xe := xe } (b₀ :: suite) (ts a cls d ctx)) :
    PS X (.Try body [.ExceptHandler (some (.Name x np)) (some n) (b₀ :: suite) pos'] [] [] pos) (fun D σ H => tb (wCh X.K c i ts) D σ H) := by
  obtain ⟨E1, hx⟩ := hx
  refine ⟨fun pins s σ H D I h => ?_⟩
  have ok := I.ok
  have hfr : X.A.frames = some (X.env :: X.outer) := ok.frames.trans (by rw [hs])
  have hloc : Loc X.env.scope n := .inl hln
  refine wpAny_Try_except ?_
  have run := (hb (wCh X.K c i ts) (X.pn ++ pins) (fun e s₁ => wpAny (model X.prog X.w) X.A (noteFrame e X.env) (fun _ s₂ => wpAny (model X.prog X.w) X.A (setFlight e none) (fun _ s₃ =>
      wpAny (model X.prog X.w) X.A (handleBy e X.env [.ExceptHandler (some (.Name x np)) (some n) (b₀ :: suite) pos']) (SP X pins D) X.xe s₃) X.xe s₂) X.xe s₁) (fun u s' xx => ?_)).run [] s σ H D (I.toTry _) h
  · refine wpAny_mono run (fun f s1 hsp => ?_) fun e s1 he => he
    cases f with
    | next =>
      obtain ⟨σ', H', J', q⟩ := hsp
      exact wpAny_execs_nil ⟨σ', H', J'.ofTry ok, q⟩
    | brk =>
      obtain ⟨σ', H', J', q⟩ := hsp
      exact ⟨σ', H', J'.ofTry ok, q⟩
    | cont =>
      obtain ⟨σ', H', J', q⟩ := hsp
      exact ⟨σ', H', J'.ofTry ok, q⟩
    | ret u =>
      obtain ⟨v, σ', H', J', r, q⟩ := hsp
      exact ⟨v, σ', H', J'.ofTry ok, r, q⟩
  · -- it is caught
    obtain ⟨a, B, sI, pins', σ', H', cls, d, ctx, l, rfl, J', nb, up, sky, na, os, ag, ch, hm, hw⟩ := xx
    have J : Inv X pins σ' H' sI := J'.ofTry ok
    have sky' : Sky B (X.env :: X.outer) a (Zk cls d ctx) X.env.locals s'.heap := by
      rw [← hs]
      exact sky
    show wpAny (model X.prog X.w) X.A (noteFrame (.ref a) X.env) _ _ _
    refine L2N.Sky.land Zk.steady hfr hf sky' fun h3 fl3 up3 => ?_
    have J3 : Inv X pins σ' H' { s' with heap := h3 } := J.landed nb fl3.1 (up.trans up3) os ag
    obtain ⟨oe3, vs3, he3, hz3, hd3⟩ := fl3.there
    -- a is no frame's
    have nfr : a ∉ frs (X.env :: X.outer) := fun hmem => by
      obtain ⟨_, o', e', nf⟩ := fl3.2.2.1.mem hmem
      rw [he3] at e'
      cases e'
      exact nf _ hd3
    have nL : a ≠ X.env.locals := fun z => nfr (List.mem_filterMap.mpr ⟨X.env, List.mem_cons_self, by rw [hf, z]⟩)
    have nF : a ∉ X.fs := fun hmem => by
      obtain ⟨e, he, q⟩ := List.mem_filterMap.mp hmem
      exact nfr (List.mem_filterMap.mpr ⟨e, List.mem_cons_of_mem _ he, q⟩)
    have n0 : X.s_0.heap.get? a = none := by
      cases e : X.s_0.heap.get? a with
      | none => rfl
      | some o =>
        obtain ⟨o', e1⟩ := J.base.there a o e (by rw [hex]; exact List.not_mem_nil)
        have e2 := nb a o' e1 (by rw [hs]; exact nfr)
        rw [fl3.2.1] at e2
        cases e2
    have S3 := J3.suite he3 hd3 na nL nF
    refine wpAny_handleBy_cons (codeAny_handlers_test ?_) (by intro q; cases q)
    have LT : PySem.W.Looks (model X.prog X.w) h3 (typeOf (.ref a)) cls := fun A Q E s k q => wpAny_typeOf_ref (k _ _ he3) (by rw [hz3.1]; exact q)
    have LM := PySem.W.exm_one (M := model X.prog X.w) J3.kIn LT hm
    have test : ∀ {Q : Value → Shared → Prop} {E : Value → Shared → Prop}, Q c { s' with heap := h3 } → wpAny (model X.prog X.w) (X.A.mark (some (.ref a))) (eval (.Name x np) X.env) Q E { s' with heap := h3 } := by
      intro Q E q
      obtain ⟨hg, hdb, hm | ⟨hm, hv, hnn⟩⟩ := hc
      · exact ld_glob (X := X.suite a ((a, oe3) :: (X.pn ++ pins))) S3 hg hm q hdb
      · exact ld_blt (X := X.suite a ((a, oe3) :: (X.pn ++ pins))) S3 hg hm hv q hnn hdb
    refine test (LM.here (codeAny_handlers_suite_as (HandSPX.lands_againZ fl3 fun h4 fl4 up4 => ?_)))
    have J4 : Inv X pins σ' H' { s' with heap := h4 } := J.landed nb fl4.1 ((up.trans up3).trans up4) os ag
    obtain ⟨oe4, vs4, he4, hz4, hd4⟩ := fl4.there
    have S4 := J4.suite he4 hd4 na nL nF
    refine store_ok (X := X.suite a ((a, oe4) :: (X.pn ++ pins))) (v := .ref a) S4 hN hi hloc rfl (fun s5 S5 => ?_) (.inr hln)
    have hq := hw a ctx l na ch
    refine wpAny_mono ((hsu a oe4 cls d ctx (X.pn ++ pins) _ hz4 ⟨_, hd4⟩ (fun u s6 xx => ?_)).run [] s5 _ H' _ (Inv.unwish (X := { suiteX X a ((a, oe4) :: (X.pn ++ pins)) with xe := _ }) (E := fun _ _ => False) S5) hq) (fun f s6 hsp => ?_) (fun e6 s6 z => z)
    · -- what the suite raises
      obtain ⟨n2, on, vn, sJ, pins2, σ2, H2, cls2, d2, l2, rfl, JY, k6, nn, hn, hzn, hdn, h1n, nn2, os2, ag2, ch2, w2⟩ := xx
      have JX : Inv X [] σ2 H2 sJ := ⟨ok, JY.os, JY.bare, JY.base, JY.loc, JY.cell, JY.free, JY.freeC, fun p hp => absurd (hpn ▸ hp) (by simp), JY.hok, JY.len⟩
      have Pa := JY.pin (a, oe4) (List.mem_append_left _ List.mem_cons_self)
      have ne : n2 ≠ a := fun z => by
        have := Pa.1
        rw [← z, nn] at this
        cases this
      have okC : ObjOk X.prog X.w (upd H2 a (CtO a ctx)) sJ.heap a (CtO a ctx) := ⟨⟨oe4, vs4, Pa.1, hd4, hz4.2.2 vs4 hd4⟩, ⟨_, Pa.1⟩, fun h1 h2 ⟨o, us, e1, e2, e3⟩ k => ⟨o, us, k o e1, e2, e3⟩⟩
      have JT := inv_track (u := CtO a ctx) hpn JX Pa.1 (fun v z => by rw [hd4] at z; cases z) Pa.2.1 n0 nL okC
      have nbT : ∀ b o, sJ.heap.get? b = some o → b ∉ frs X.stack → (PySem.W.hideAll sJ.heap (frs X.stack)).get? b = some o := fun b o e hb => PySem.W.hideAll_get _ e hb
      have stay : (PySem.W.hideAll sJ.heap (frs X.stack)).StaysIn s6.heap := fun b o e => k6 b o (PySem.W.of_hideAll _ e)
      have gn : (PySem.W.hideAll sJ.heap (frs X.stack)).get? n2 = none := by
        cases q : (PySem.W.hideAll sJ.heap (frs X.stack)).get? n2 with
        | none => rfl
        | some o =>
          have z := PySem.W.of_hideAll _ q
          rw [nn] at z
          cases z
      have ff : s6.heap.FunFrames (PySem.W.hideAll sJ.heap (frs X.stack)) (X.env :: X.outer) := by
        rw [← hs]
        exact Heap.FunFrames.of_keeps (fun b o e _ => ⟨o, k6 b o e, rfl⟩) (funFrames_none JX.stack fun b hb => PySem.W.hideAll_none _ hb)
      refine PXN.look_newZ (Z := Zk cls2 d2 (.ref a)) Zk.steady (show (X.A.mark (some (.ref a))).frames = _ from hfr) ff hf hn stay gn hdn h1n hzn fun h7 hh7 up7 => ?_
      have J7 : Inv X [] σ2 (upd H2 a (CtO a ctx)) { s6 with heap := h7 } := JT.landed nbT hh7.1 ((Heap.UpToSlots.of_keeps k6).trans up7) os2 ag2
      obtain ⟨m7, hn7, _⟩ := J7.loc
      have hcls : (X.env.scope.kind == .class || (X.env.scope.kind == .module && X.env.locals != X.env.globals)) = false := by rw [ok.kind]; rfl
      refine wpAny_nameGoes_keeps hln hn7 hcls fun h8 v8 hn8 sb8 => ?_
      obtain ⟨oL, eL, xL, gL, dL, _⟩ := id hn7
      obtain ⟨oL8, eL8, xL8, gL8, dL8, _⟩ := id hn8
      have inF : X.env.locals ∈ frs X.stack := by
        rw [hs]
        exact List.mem_filterMap.mpr ⟨X.env, List.mem_cons_self, hf⟩
      have hh8 := held_keep (h' := h8) hh7 (PySem.W.hideAll_none _ inF) (fun b hb => sb8.2 b hb) gL8 (fun vs z => by rw [dL8] at z; cases z) oL gL fun vs z => by rw [dL] at z; cases z
      obtain ⟨_, _, _, o8, v8', T8, oT8, ts8, g8, _, d8, f8, _⟩ := id hh8
      have toXe : ∀ (s9 : Shared), X.xe (.ref n2) s9 → notedBy (model X.prog X.w) (X.A.mark (some (.ref a))) X.env (cameBackBy (model X.prog X.w) X.A X.env X.xe) (.ref n2) s9 := fun s9 z => L2H.passesAt_of hx (some (.ref a)) _ _ z
      have rest : wpAny (model X.prog X.w) (X.A.mark (some (.ref a))) (setFlight (.ref n2) X.env.frame) (fun _ s9 => wpAny (model X.prog X.w) (X.A.mark (some (.ref a))) (throw (.ref n2) : Sem Flow) (fun _ _ => False)
          (notedBy (model X.prog X.w) (X.A.mark (some (.ref a))) X.env (cameBackBy (model X.prog X.w) X.A X.env X.xe)) s9) (notedBy (model X.prog X.w) (X.A.mark (some (.ref a))) X.env (cameBackBy (model X.prog X.w) X.A X.env X.xe)) { s6 with heap := h8, toks := s6.toks + 1 } := by
        rw [hf]
        refine HandSPX.setFlight_onZ hh8 fun h9 hh9 up9 => wpAny_throw (toXe _ ?_)
        rw [hx]
        refine leave_held hs hf hex JT nbT (fun b o hb e nf => ?_) hh9 ((upd_ne ne).trans nn2) os2 ag2 (.cons upd_same (ch2.keep fun y c e => (upd_ne (ne_of_none e Pa.2.1)).trans e)) (w2 Pa.2.1)
        obtain ⟨sl, z1⟩ := up7 b o (k6 b o e) nf
        obtain ⟨sl2, z2⟩ := up9 b _ ((sb8.2 b hb).trans z1) nf
        exact ⟨sl2, z2⟩
      unfold PySem.passOn
      refine wpAny_bind (wpAny_field g8 d8 f8 ?_)
      rw [if_neg (show ¬ ((Value.ref T8 == Value.none) = true) from by simp)]
      first
      | exact wpAny_bind (wpAny_pure (wpAny_bind rest))
      | exact wpAny_bind rest
    · cases f with
      | next =>
        obtain ⟨_, _, _, z⟩ := hsp
        exact z.elim
      | brk =>
        obtain ⟨_, _, _, z⟩ := hsp
        exact z.elim
      | cont =>
        obtain ⟨_, _, _, z⟩ := hsp
        exact z.elim
      | ret u =>
        obtain ⟨_, _, _, _, _, z⟩ := hsp
        exact z.elim
end
end SF
end -- X5

section -- D1
set_option Elab.async false
set_option linter.all false
set_option maxRecDepth 100000
set_option maxHeartbeats 2000000
/-! # D1: dicts whose keys are names: setdefault, sorted -/
namespace SF
open PySem PySem.Spec PyProof.Rows L2
open PySem.W (alike alikeAll)
/-- a name as a dict's key -/
def nmK (s : List Nat) : List L2.Key := s.map fun c => .inl (Int.ofNat c)
theorem nmK_kV (s : List Nat) : (nmK s).map kV = vT s := by
  unfold nmK
  rw [List.map_map]
  rfl
theorem nmK_inj : ∀ {s t : List Nat}, nmK s = nmK t → s = t
  | [], [], _ => rfl
  | [], _ :: _, h => by cases h
  | _ :: _, [], h => by cases h
  | c :: s, d :: t, h => by
    have h' : (Sum.inl (Int.ofNat c) : L2.Key) :: nmK s = Sum.inl (Int.ofNat d) :: nmK t := h
    have h1 : Int.ofNat c = Int.ofNat d := Sum.inl.inj (List.cons.inj h').1
    rw [nmK_inj (List.cons.inj h').2, Int.ofNat.inj h1]
section
variable {X : Cx}
/-- d.setdefault(k, x) -/
def rSetT : V → List V → Hp → VK → Prop := fun x xs H Q => ∃ (a b : Addr) (kvs : List (List L2.Key × V)) (k : List L2.Key) (d : V), x = .ref a ∧ xs = [.ref b, d] ∧ H a = some (.dT kvs) ∧ H b = some (.tup (k.map kV)) ∧ kvs.length < sizeLine ∧
  (∀ v, valV kvs k = some v → Q v H) ∧ (valV kvs k = none → Q d (upd H a (.dT (putK kvs k d))))
theorem mt_setT (hu : X.A.units + 1 < cLine) : MtR X "dict.setdefault" rSetT := by
  intro pins s σ H x xs v us Q I rx rxs h
  obtain ⟨a, b, kvs, k, d, rfl, rfl, ha, hb, hl, q1, q2⟩ := h
  cases rx
  obtain ⟨u1, u2, rfl, r1, r2⟩ := vals2 rxs
  cases r1
  obtain ⟨z, hd, xs', rel, dd⟩ := dt_of I.hok ha
  refine call_setdefault_heap (hsz := by rw [← Paired.length rel]; exact z) (tupleKind_room_in1 hu) (key_of I.hok hb) hd dd (fun p hp => ?_) fun hn h' dd' hs => ?_
  · have r := rel.val k
    rw [hp] at r
    cases ev : valV kvs k with
    | none =>
      rw [ev] at r
      exact (show False from r).elim
    | some v0 =>
      rw [ev] at r
      exact ⟨v0, H, I.tok _, r, q1 v0 ev⟩
  · have r := rel.val k
    rw [hn] at r
    have ev : valV kvs k = none := by
      cases ev : valV kvs k with
      | none => rfl
      | some v0 =>
        rw [ev] at r
        exact (show False from r).elim
    obtain ⟨o, es, ep, hq, h2, h3, h4, _, h5⟩ := dd'
    have hl2 : (putK kvs k d).length ≤ sizeLine := by
      have := length_putK kvs k d
      omega
    have rel2 := KT.put rel k hb r2
    refine ⟨d, upd H a (.dT (putK kvs k d)), d_write (ob := .dT (putK kvs k d)) I (by rw [ha]; exact True.intro) hs ⟨o, hq⟩ ⟨hl2, hd, _, rel2.keeps (fun c ys ec => ?_), o, es, ep, hq, h2, h3, h4, h5⟩, r2, q2 ev⟩
    rw [upd_ne (ne_of ec ha (fun z => nomatch z))]
    exact ec
/-- sorted(d), d's keys names -/
def nmEnc : List Nat → PyData := nmD
def sortN (ns : List (List Nat)) : List (List Nat) := ns.mergeSort (PySem.W.dataLe false nmD)
def RNm (H : Hp) (v : Value) (s : List Nat) : Prop := ∃ n, v = .ref n ∧ H n = some (.tup (vT s))
theorem nm_alike : ∀ s t : List Nat, alikeAll (s.map fun c => PyData.int (Int.ofNat c)) (t.map fun c => PyData.int (Int.ofNat c)) = true
  | [], _ => by simp [alikeAll]
  | _ :: _, [] => by simp [alikeAll]
  | c :: s, e :: t => by
    simp only [List.map_cons, alikeAll, alike, nm_alike s t, Bool.true_and]
theorem nmD_alike (s t : List Nat) : alike (nmD s) (nmD t) = true := by
  unfold nmD alike
  exact nm_alike s t
theorem each_of_keys {H : Hp} : ∀ {kvs : List (List L2.Key × V)} {xs : List (List L2.Key × Addr × Value)} {ns : List (List Nat)}, KT H kvs xs → kvs.map (·.1) = ns.map nmK → PySem.W.EachIs (RNm H) (xs.map fun x => Value.ref x.2.1) ns
  | _, _, [], .nil, _ => .nil
  | _, _, _ :: _, .nil, h => by cases h
  | _, _, [], .cons _ _, h => by cases h
  | _, _, n :: ns, .cons (a := p) (b := q) h t, e => by
    have e1 : p.1 = nmK n := (List.cons.inj e).1
    refine .cons ⟨q.2.1, rfl, ?_⟩ (each_of_keys t (List.cons.inj e).2)
    rw [← nmK_kV, ← e1]
    exact h.2.1
theorem nms_of_each {H : Hp} : ∀ {out : List Value} {ss : List (List Nat)}, PySem.W.EachIs (RNm H) out ss → ∃ xs, Vals xs out ∧ Nms H xs ss
  | _, _, .nil => ⟨[], .nil, trivial⟩
  | _, _, .cons ⟨n, e, h⟩ t => by
    obtain ⟨xs, r, q⟩ := nms_of_each t
    subst e
    exact ⟨.ref n :: xs, .cons rfl r, ⟨n, rfl, h⟩, q⟩
def rSortT : List V → Hp → VK → Prop := fun vs H Q => ∃ (d : Addr) (kvs : List (List L2.Key × V)) (ns : List (List Nat)), vs = [.ref d] ∧ H d = some (.dT kvs) ∧ kvs.map (·.1) = ns.map nmK ∧ (∀ s ∈ ns, s ≠ []) ∧
  ∀ p xs, H p = none → Nms H xs (sortN ns) → Q (.ref p) (upd H p (.lst xs))
theorem call_sortT (hcalm : X.calm = true) (hu : X.A.units + 65 < cLine) : CallR X (.builtin "sorted") rSortT := by
  intro pins s σ H vs us Q I r h
  obtain ⟨d, kvs, ns, rfl, hd, hk, hne, q⟩ := h
  obtain ⟨u, rfl, rx⟩ := r.one
  cases rx
  obtain ⟨z, lo, ks, pr, o, es, ep, ho, hx, hdt, he, hn⟩ := (show ObjOk X.prog X.w H s.heap d (.dT kvs) from I.hok d _ hd)
  have l1 : es.size = ks.length := size_of_entries he
  have l2 : kvs.length = ks.length := Paired.length pr
  have l3 : ks.length = ns.length := by
    have := congrArg List.length hk
    rw [List.length_map, List.length_map] at this
    omega
  refine Calls.call_function_entry PyProof.Rows.kind_sorted PyProof.Rows.plain_sorted PyProof.Rows.entry_sorted (PyProof.Rows.args_sorted1 _) ?_
  unfold Builtin.«sorted»
  refine wpAny_bind (m := checkCount "sorted" 1 1 _) (wpAny_pure (wpAny_bind (PySem.W.kdu_collect (A := X.A.in1) (kdl_raw lo hx hdt) (I.ok.hd hcalm) ho (by omega) fun h' tk acc keep hacc => ?_)))
  have ea : acc.toList = ks.map fun x => Value.ref x.2.1 := by
    have hl : acc.toList.length = ks.length := by rw [Array.length_toList, hacc.1, l1]
    refine List.ext_getElem? fun j => ?_
    rw [List.getElem?_map]
    cases hj : acc.toList[j]? with
    | none =>
      have := List.getElem?_eq_none_iff.mp hj
      rw [List.getElem?_eq_none (by omega)]
      rfl
    | some v =>
      obtain ⟨en, hen, hv⟩ := hacc.2 j v (by rw [← Array.getElem?_toList]; exact hj)
      have qe := entry_at he j
      rw [hen] at qe
      cases hb : ks[j]? with
      | none =>
        rw [hb] at qe
        cases qe
      | some b =>
        rw [hb] at qe
        rw [hv, Option.some.inj qe]
        rfl
  have I1 : Inv X pins σ H { s with heap := h', toks := tk } := I.kept keep
  have len : acc.toList.length = ns.length := by rw [ea, List.length_map, l3]
  refine wpAny_bind (wpAny_newList ?_ (by omega))
  have hoL : (h'.push (seqObj "list" acc.toList.toArray 0)).get? h'.objs.size = some (seqObj "list" acc.toList.toArray 0) := Heap.get?_push_size _ rfl
  show wpAny _ _ _ _ _ { s with heap := h'.push (seqObj "list" acc.toList.toArray 0), toks := tk }
  have each : PySem.W.EachIs (RNm H) acc.toList ns := by
    rw [ea]
    exact each_of_keys pr hk
  have reads : PySem.W.EachIs (fun v b => ∃ as, Reads (h'.push (seqObj "list" acc.toList.toArray 0)) v (nmD b) as ∧ h'.objs.size ∉ as) acc.toList ns := by
    refine each.mono fun v b ⟨n, e, hb⟩ => ?_
    subst e
    obtain ⟨_, its, rv, ot, g1, g2, m, g3⟩ := (show ObjOk X.prog X.w H h' n (.tup (vT b)) from I1.hok n _ hb)
    have rds : ∀ (l : List Nat) (vs : List Value), Vals (vT l) vs → ReadsAll (h'.push (seqObj "list" acc.toList.toArray 0)) vs (l.map fun c => PyData.int (Int.ofNat c)) [] := by
      intro l
      induction l with
      | nil => intro vs r; cases r; exact .nil
      | cons c l ih =>
        intro vs r
        cases r with
        | cons r1 r2 =>
          obtain ⟨t, rfl⟩ := r1
          exact .cons (as := []) (.int _ t) (ih _ r2)
    refine ⟨[], .tuple (Heap.get?_push_of_some _ g1) g2 g3 ?_, by simp⟩
    exact rds b _ rv
  refine wpAny_bind (wpAny_holding (PySem.W.list_sort_data (s := { s with heap := h'.push (seqObj "list" acc.toList.toArray 0), toks := tk }) hoL each reads (.of nmD_alike) ?_ (by omega) (fun b _ => ?_) fun out lo2 eo => ?_))
  · refine .inl fun dd hdd => ?_
    obtain ⟨b, hb, rfl⟩ := List.mem_map.mp hdd
    cases b with
    | nil => exact (hne _ hb rfl).elim
    | cons c b => exact ⟨_, _, rfl⟩
  · rw [nmD_depth]
    show X.A.units + 1 + 1 + 1 < cLine
    omega
  · obtain ⟨xs, rv, hN⟩ := nms_of_each eo
    obtain ⟨e', he'⟩ := PyProof.Rows.sortedHeap_at (vs := acc.toList) (out := out.toArray) hoL
    have hz : xs.length ≤ sizeLine := by
      have := Paired.length rv
      omega
    refine wpAny_pure ⟨_, rfl, .ref h'.objs.size, upd H h'.objs.size (.lst xs), I1.laid (t' := tk) (fun b u e => ?_) (Nat.le_refl _) (show ObjOk X.prog X.w _ _ _ (.lst xs) from ⟨hz, out, e', rv, he'⟩), rfl, q _ xs (I1.hok.fresh (Nat.le_refl _)) hN⟩
    have hb : b < h'.objs.size := Heap.lt_size e
    rw [PyProof.Rows.sortedHeap_old (Nat.ne_of_lt hb) (by rw [size_push']; exact Nat.lt_succ_of_lt hb)]
    exact Heap.get?_push_of_some _ e
end
end SF
end -- D1

section -- D2
set_option Elab.async false
set_option linter.all false
set_option maxRecDepth 100000
set_option maxHeartbeats 2000000
/-! # D2: dict(pairs of a name and a value) -/
namespace SF
open PySem PySem.Spec PyProof.Rows L2
/-- pairs as they lie -/
def Prs (H : Hp) : List V → List (List Nat × V) → Prop
  | [], [] => True
  | y :: ys, (s, v) :: es => (∃ t n, y = .ref t ∧ H t = some (.tup [.ref n, v]) ∧ H n = some (.tup (vT s))) ∧ Prs H ys es
  | _, _ => False
theorem Prs.mono {H H' : Hp} (k : ∀ a xs, H a = some (.tup xs) → H' a = some (.tup xs)) : ∀ {ys : List V} {es : List (List Nat × V)}, Prs H ys es → Prs H' ys es
  | [], [], _ => trivial
  | y :: ys, (s, v) :: es, ⟨⟨t, n, e, h1, h2⟩, r⟩ => ⟨⟨t, n, e, k _ _ h1, k _ _ h2⟩, r.mono k⟩
  | [], _ :: _, h => h.elim
  | _ :: _, [], h => h.elim
theorem Prs.len {H : Hp} : ∀ {ys : List V} {es : List (List Nat × V)}, Prs H ys es → ys.length = es.length
  | [], [], _ => rfl
  | y :: ys, (s, v) :: es, ⟨_, r⟩ => congrArg (· + 1) r.len
  | [], _ :: _, h => h.elim
  | _ :: _, [], h => h.elim
theorem Prs.at {H : Hp} : ∀ {ys : List V} {es : List (List Nat × V)} {i : Nat} {y : V}, Prs H ys es → ys[i]? = some y → ∃ t n s v, y = .ref t ∧ es[i]? = some (s, v) ∧ H t = some (.tup [.ref n, v]) ∧ H n = some (.tup (vT s))
  | [], [], _, _, _, h => by simp at h
  | y :: ys, (s, v) :: es, 0, z, ⟨⟨t, n, e, h1, h2⟩, r⟩, hz => ⟨t, n, s, v, (Option.some.inj hz).symm.trans e, rfl, h1, h2⟩
  | y :: ys, (s, v) :: es, i + 1, z, ⟨_, r⟩, hz => by
    obtain ⟨t, n, s', v', a, b, c, d⟩ := r.at (i := i) (y := z) hz
    exact ⟨t, n, s', v', a, b, c, d⟩
  | [], _ :: _, _, _, h, _ => h.elim
  | _ :: _, [], _, _, h, _ => h.elim
theorem Prs.app {H : Hp} {t n : Addr} {s : List Nat} {v : V} (h1 : H t = some (.tup [.ref n, v])) (h2 : H n = some (.tup (vT s))) : ∀ {ys : List V} {es : List (List Nat × V)}, Prs H ys es → Prs H (ys ++ [.ref t]) (es ++ [(s, v)])
  | [], [], _ => ⟨⟨t, n, rfl, h1, h2⟩, trivial⟩
  | y :: ys, (s', v') :: es, ⟨h, r⟩ => ⟨h, r.app h1 h2⟩
  | [], _ :: _, h => h.elim
  | _ :: _, [], h => h.elim
section
variable {X : Cx} {pins : List (Addr × Obj)} {σ : L2.St} {H : Hp} {s : Shared}
theorem nodup_map_inj {α β : Type} {f : α → β} (hf : ∀ a b, f a = f b → a = b) : ∀ {l : List α}, l.Nodup → (l.map f).Nodup
  | [], _ => List.nodup_nil
  | a :: l, h => by
    rw [List.map_cons]
    obtain ⟨h1, h2⟩ := List.nodup_cons.mp h
    refine List.nodup_cons.mpr ⟨fun z => ?_, nodup_map_inj hf h2⟩
    obtain ⟨b, hb, e⟩ := List.mem_map.mp z
    exact h1 (hf _ _ e ▸ hb)
theorem prs_get (I : Inv X pins σ H s) : ∀ {ys : List V} {es : List (List Nat × V)}, Prs H ys es → ∃ (ts : List Addr) (ps : List (List L2.Key × Addr × Value)), ys = ts.map V.ref ∧ ts.length = ps.length ∧ KT H (es.map fun e => (nmK e.1, e.2)) ps ∧
    ∀ (j : Nat) (t : Addr) (x : List L2.Key × Addr × Value), ts[j]? = some t → ps[j]? = some x → PairAt s.heap t (.ref x.2.1) x.2.2
  | [], [], _ => ⟨[], [], rfl, rfl, .nil, fun j t x h => by simp at h⟩
  | y :: ys, (nm, v) :: es, ⟨⟨t, n, e, h1, h2⟩, r⟩ => by
    obtain ⟨ts, ps, q1, q2, q3, q4⟩ := prs_get I r
    subst e q1
    obtain ⟨_, its, rv, ot, g1, g2, m, g3⟩ := (show ObjOk X.prog X.w H s.heap t (.tup [.ref n, v]) from I.hok t _ h1)
    obtain ⟨u1, u2, rfl, r1, r2⟩ := vals2 rv
    cases r1
    refine ⟨t :: ts, (nmK nm, n, u2) :: ps, rfl, congrArg (· + 1) q2, .cons ⟨rfl, by rw [nmK_kV]; exact h2, r2⟩ q3, fun j t' x hj hx => ?_⟩
    cases j with
    | zero =>
      have e1 : t = t' := Option.some.inj hj
      have e2 : (nmK nm, n, u2) = x := Option.some.inj hx
      subst e1 e2
      exact .inl ⟨ot, g1, g2, m, g3⟩
    | succ j => exact q4 j t' x hj hx
  | [], _ :: _, h => h.elim
  | _ :: _, [], h => h.elim
end
section
variable {X : Cx}
def rDictP : List V → Hp → VK → Prop := fun vs H Q => ∃ (l : Addr) (ys : List V) (es : List (List Nat × V)), vs = [.ref l] ∧ H l = some (.lst ys) ∧ Prs H ys es ∧ (es.map (·.1)).Nodup ∧ es.length ≤ sizeLine ∧
  ∀ p, H p = none → Q (.ref p) (upd H p (.dT (es.map fun e => (nmK e.1, e.2))))
theorem call_dictP (hcalm : X.calm = true) (hu : X.A.units + 65 < cLine) : CallR X (.type "dict") rDictP := by
  intro pins s σ H vs us Q I r h
  obtain ⟨l, ys, es, rfl, hl, hp, hn, hz, q⟩ := h
  obtain ⟨u, rfl, rx⟩ := r.one
  cases rx
  obtain ⟨ts, ps, rfl, q2, q3, q4⟩ := prs_get I hp
  obtain ⟨zl, its, n, rv, ho⟩ := (show ObjOk X.prog X.w H s.heap l (.lst (ts.map V.ref)) from I.hok l _ hl)
  have ei : its = ts.map Value.ref := by
    have key : ∀ (ts : List Addr) (its : List Value), Vals (ts.map V.ref) its → its = ts.map Value.ref := by
      intro ts
      induction ts with
      | nil => intro its r; cases r; rfl
      | cons t ts ih =>
        intro its r
        cases r with
        | cons r1 r2 =>
          cases r1
          rw [ih _ r2]
          rfl
    exact key ts its rv
  subst ei
  have lps : ps.length = es.length := by
    have := Paired.length q3
    rw [List.length_map] at this
    exact this.symm
  have knames : ps.map (·.1) = es.map fun e => nmK e.1 := by
    have key : ∀ {kvs : List (List L2.Key × V)} {xs : List (List L2.Key × Addr × Value)}, KT H kvs xs → xs.map (·.1) = kvs.map (·.1) := by
      intro kvs xs r
      induction r with
      | nil => rfl
      | cons h t ih => rw [List.map_cons, List.map_cons, ih, h.1]
    rw [key q3, List.map_map]
    rfl
  have hnd : (ps.map (·.1)).Nodup := by
    rw [knames]
    have : (es.map fun e => nmK e.1) = (es.map (·.1)).map nmK := by rw [List.map_map]; rfl
    rw [this]
    exact nodup_map_inj (fun _ _ z => nmK_inj z) hn
  have pa := PairArg.list (prog := X.prog) (w := X.w) l (ts.map Value.ref).toArray (fun j => ts.getD j 0) (ps.map fun x => (Value.ref x.2.1, x.2.2))
  have okA : PlainSeq "list" s.heap l (ts.map Value.ref).toArray ∧ PairItems s.heap (ts.map Value.ref).toArray (fun j => ts.getD j 0) (ps.map fun x => (Value.ref x.2.1, x.2.2)) := by
    refine ⟨⟨_, n, ho, rfl, rfl, rfl⟩, by simp [q2], fun j k v hj => ?_⟩
    rw [List.getElem?_map] at hj
    cases hx : ps[j]? with
    | none => rw [hx] at hj; cases hj
    | some x =>
      rw [hx] at hj
      cases hj
      have lt : j < ts.length := by
        have := (List.getElem?_eq_some_iff.mp hx).1
        omega
      have ht : ts[j]? = some ts[j] := List.getElem?_eq_getElem lt
      have hD : ts.getD j 0 = ts[j] := by simp [List.getD, ht]
      refine ⟨?_, ?_⟩
      · show (ts.map Value.ref).toArray[j]? = some (.ref (ts.getD j 0))
        rw [hD]
        simp [ht]
      · show PairAt s.heap (ts.getD j 0) _ _
        rw [hD]
        exact q4 j _ x ht hx
  have tk : ∀ {h'' : Heap}, (∀ b o, s.heap.get? b = some o → h''.get? b = some o) → ∀ x ∈ ps, (tupleKind (mixKind X.prog X.w)).is h'' x.1 x.2.1 := fun {h''} k x hx => by
    have ok'' : HOk X.prog X.w H h'' := I.hok.kept k
    have key : ∀ {kvs : List (List L2.Key × V)} {xs : List (List L2.Key × Addr × Value)}, KT H kvs xs → ∀ x ∈ xs, (tupleKind (mixKind X.prog X.w)).is h'' x.1 x.2.1 := by
      intro kvs xs r
      induction r with
      | nil => exact fun x hx => absurd hx (by simp)
      | @cons p q _ _ h t ih =>
        intro x hx
        rcases List.mem_cons.mp hx with e | hx
        · subst e
          exact key_of ok'' (by rw [← h.1]; exact h.2.1)
        · exact ih x hx
    exact key q3 x hx
  refine call_dict_pairsH (knd := tupleKind (mixKind X.prog X.w)) (ps := ps) pa (I.ok.hd hcalm) (tupleKind_room_in1 (by show X.A.units + 1 + 1 < cLine; omega)) okA ⟨by simp, fun i key v hr => ?_⟩ (fun h' hk x hx => tk (fun b o e => hk b o (Nat.ne_of_lt (Heap.lt_size e)) (by simp) e) x hx) (by rw [List.length_map, lps]; exact hz) fun h' tk' dd' hk => ?_
  · have hr' : (ps.map fun x => (Value.ref x.2.1, x.2.2))[i]? = some (key, v) := hr
    rw [List.getElem?_map] at hr'
    cases hx : ps[i]? with
    | none => rw [hx] at hr'; cases hr'
    | some x =>
      rw [hx] at hr'
      cases hr'
      exact ⟨x.1, x.2.1, rfl, rfl⟩
  · rw [storedAllH_nil_of_nodup ps hnd] at dd'
    obtain ⟨o, es', ep, g1, g2, g3, g4, _, g5⟩ := dd'
    have keep : ∀ b o, s.heap.get? b = some o → h'.get? b = some o := fun b o e => hk b o (by simp) e
    have hm : (s.heap.objs.size == sysModules) = false := beq_eq_false_iff_ne.mpr (Nat.ne_of_gt I.big)
    have nf : H s.heap.objs.size = none := I.hok.fresh (Nat.le_refl _)
    refine ⟨.ref s.heap.objs.size, upd H s.heap.objs.size (.dT (es.map fun e => (nmK e.1, e.2))), I.laid (t' := tk') keep (Nat.le_refl _) ?_, rfl, q _ nf⟩
    refine ⟨by rw [List.length_map]; exact hz, hm, ps, KT.keeps q3 (fun c ys ec => ?_), o, es', ep, g1, g2, g3, g4, g5⟩
    rw [upd_ne (ne_of_none ec nf)]
    exact ec
end
end SF
end -- D2

section -- D3
set_option Elab.async false
set_option linter.all false
set_option maxRecDepth 100000
set_option maxHeartbeats 4000000
/-! # D3: list.remove of a name; len(set(..)) of many ints, few of them different -/
namespace SF
open PySem PySem.Spec PyProof.Rows L2
section
variable {X : Cx}
/-- names.remove(name), the name there at j first -/
def rRemN : V → List V → Hp → VK → Prop := fun x xs H Q => ∃ (a n : Addr) (s : List Nat) (ys : List V) (ss : List (List Nat)) (j : Nat), x = .ref a ∧ xs = [.ref n] ∧ H a = some (.lst ys) ∧ Nms H ys ss ∧ H n = some (.tup (vT s)) ∧ ss[j]? = some s ∧ (∀ m, m < j → ss[m]? ≠ some s) ∧
  Q .non (upd H a (.lst (ys.eraseIdx j)))
theorem mt_remN (hu : X.A.units + 65 < cLine) : MtR X "list.remove" rRemN := by
  intro pins s σ H x xs v us Q I rx rxs h
  obtain ⟨a, n, nm, ys, ss, j, rfl, rfl, hl, hN, hn, hj, hno, q⟩ := h
  cases rx
  obtain ⟨un, rfl, ry⟩ := rxs.one
  obtain ⟨bs, r1⟩ := Dp.reads I (nmD nm) (.ref n) un (dp_name hn) ry
  obtain ⟨z, its, k, rv, ho⟩ := (show ObjOk X.prog X.w H s.heap a (.lst ys) from I.hok a _ hl)
  obtain ⟨as, h4⟩ := Dp.readsAll I (ss.map nmD) _ its (dp_names hN) rv
  have hxs : PyData.canLayAll0 (ss.map nmD) = true := nmDs_lay ss
  have hroom : X.A.units + 1 + min (PyData.depthAll (ss.map nmD)) (nmD nm).depth < cLine := by
    rw [nmD_depth]
    omega
  have hn1 : its.length = (ss.map nmD).length := SeqAt.ReadsAll.length (ss.map nmD) its as h4
  have hmap : its.map (SeqAt.readOf s.heap) = ss.map nmD := SeqAt.readsAll_map (ss.map nmD) its as hxs h4
  rw [List.length_map] at hn1
  have hjs : j < ss.length := (List.getElem?_eq_some_iff.mp hj).1
  have tell : ∀ (m : Nat) (hm : m < its.toArray.size) (t : List Nat), ss[m]? = some t → PyData.eqv (SeqAt.readOf s.heap its.toArray[m]) (nmD nm) = (t == nm) := by
    intro m hm t ht
    have hml : m < its.length := by simpa using hm
    have e : (its.map (SeqAt.readOf s.heap))[m]? = some (nmD t) := by rw [hmap, List.getElem?_map, ht]; rfl
    rw [List.getElem?_map, List.getElem?_eq_getElem hml] at e
    have e1 : SeqAt.readOf s.heap its[m] = nmD t := Option.some.inj e
    rw [List.getElem_toArray, e1, nmD_eqv]
  have hz : its.toArray.size ≤ sizeLine := by
    have := Paired.length rv
    rw [List.size_toArray]
    omega
  have hj2 : j < its.toArray.size := by rw [List.size_toArray, hn1]; exact hjs
  refine call_meets PySem.F.slot_list_remove ⟨_, ho, rfl⟩ PySem.F.entry_list_remove (PySem.F.args_list_remove_2 _ _)
    (SeqAt.list_removeAt a its.toArray k none #[] un (fun u => PyData.eqv (SeqAt.readOf s.heap u) (nmD nm)) j hj2 ?hit (fun m hm hlt => ?hno) hz)
    ⟨ho, SeqAt.items_eqAt (vs := its.toArray) (show ReadsAll s.heap its.toArray.toList (ss.map nmD) as from h4) r1 hxs (nmD_lay nm) hroom, ?_⟩
  case hit =>
    show PyData.eqv (SeqAt.readOf s.heap its.toArray[j]) (nmD nm) = true
    rw [tell j hj2 nm hj]
    exact beq_self_eq_true nm
  case hno =>
    show PyData.eqv (SeqAt.readOf s.heap its.toArray[m]) (nmD nm) = false
    have hms : m < ss.length := by omega
    have ht := List.getElem?_eq_getElem hms
    rw [tell m hm _ ht]
    refine beq_eq_false_iff_ne.mpr fun e => hno m hlt ?_
    rw [ht, e]
  · have r2 : Vals (ys.eraseIdx j) (its.eraseIdx j) := rv.eraseIdx j
    refine ⟨.non, _, I.lset (its' := its.eraseIdx j) hl ho ?_ r2 ?_, rfl, q⟩
    · show its.toArray.eraseIdxIfInBounds j = (its.eraseIdx j).toArray
      rw [List.eraseIdxIfInBounds_toArray]
    · have := List.length_eraseIdx_le ys j
      omega
end
end SF
end -- D3

section -- D4
set_option Elab.async false
set_option linter.all false
set_option maxRecDepth 100000
set_option maxHeartbeats 6400000
/-! # D4: set(xs) of ever so many ints, few of them different -/
namespace SF
open PySem PySem.Spec PyProof.Rows L2
/-- those met, of the numbers 0 .. 3, are four at most -/
theorem met_nodup (val : Nat → Int) : ∀ i, (firstMet val i).Nodup
  | 0 => List.nodup_nil
  | i + 1 => by
    rw [firstMet_succ]
    unfold step_dedup
    split
    · exact met_nodup val i
    · rename_i h
      refine List.nodup_append.mpr ⟨met_nodup val i, by simp, fun a ha b hb => ?_⟩
      rcases List.mem_singleton.mp hb with rfl
      intro e
      subst e
      exact h (List.any_eq_true.mpr ⟨_, ha, beq_self_eq_true _⟩)
theorem met_in (val : Nat → Int) : ∀ i, ∀ k ∈ firstMet val i, ∃ j, j < i ∧ val j = k
  | 0, k, h => by cases h
  | i + 1, k, h => by
    rw [firstMet_succ] at h
    unfold step_dedup at h
    split at h
    · obtain ⟨j, h1, h2⟩ := met_in val i k h
      exact ⟨j, by omega, h2⟩
    · rcases List.mem_append.mp h with h | h
      · obtain ⟨j, h1, h2⟩ := met_in val i k h
        exact ⟨j, by omega, h2⟩
      · exact ⟨i, by omega, (List.mem_singleton.mp h).symm⟩
theorem met_has (val : Nat → Int) : ∀ i j, j < i → val j ∈ firstMet val i
  | i + 1, j, h => by
    rw [firstMet_succ]
    unfold step_dedup
    by_cases e : j = i
    · subst e
      split
      · rename_i h2
        obtain ⟨x, hx, e2⟩ := List.any_eq_true.mp h2
        have e3 : x = val j := by simpa using e2
        exact e3 ▸ hx
      · exact List.mem_append_right _ (by simp)
    · have := met_has val i j (by omega)
      split
      · exact this
      · exact List.mem_append_left _ this
theorem nodup_small : ∀ (l : List Int), l.Nodup → (∀ k ∈ l, 0 ≤ k ∧ k ≤ 3) → l.length ≤ 4 := by
  intro l hn hl
  have h := List.Nodup.length_le_of_subset (l₂ := [0, 1, 2, 3]) hn fun k hk => by
    obtain ⟨a, b⟩ := hl k hk
    have : k = 0 ∨ k = 1 ∨ k = 2 ∨ k = 3 := by omega
    rcases this with e | e | e | e <;> rw [e] <;> simp
  simpa using h
section
variable {prog : Program} {w : World} {A : Around} {E : Value → Shared → Prop} {s : Shared}
/-- the set's loop, the met ones few -/
theorem few_loop {R : Result → Shared → Prop} {I S : Addr} {fp wr : List Addr} {G : Array GenState → Array GenState → Prop} {n : Nat} {P : Nat → Value → Prop} {St : Nat → Shared → Prop} (W : WalksS prog w A.in1 I fp wr G n P St) (hS : S ∉ fp) (val : Nat → Int)
    (hval : ∀ i v, P i v → ∃ t, v = .int (val i) t) (few : ∀ i, (firstMet val i).length + 1 < scanBound) : ∀ (k i : Nat) (s : Shared), i + k = n → St i s → s.heap.SetOf (intKind prog w) S (fun z => (firstMet val i).any (· == z)) (firstMet val i).length →
      (∀ s', Moved (S :: wr) G s s' → s'.heap.SetOf (intKind prog w) S (fun z => (firstMet val n).any (· == z)) (firstMet val n).length → R (.ok (.ret .none)) s') → codeAny (model prog w) A (.builtin "set.update.loop" ⟨[.ref S, .ref I], []⟩) R s := by
  have off : S ∉ wr := fun z => hS (W.sub _ z)
  have wider : ∀ b ∈ wr, b ∈ S :: wr := fun b z => List.mem_cons_of_mem _ z
  intro k
  induction k with
  | zero =>
    intro i s hi st so fin
    have e : i = n := by omega
    subst e
    refine codeAny_builtin F.entry_set_update_loop ?_
    rw [Around.under_plainId F.plain_set_update_loop _]
    show wpAny _ A.in1 (pyNext (.ref I) >>= _) _ _ s
    refine wpAny_bind (W.done s _ _ st fun s' mv => wpAny_pure (fin s' (mv.mono wider) ?_))
    obtain ⟨o, es, ep, t, ho, more⟩ := so
    exact ⟨o, es, ep, t, mv.heap S _ off ho, more⟩
  | succ k ih =>
    intro i s hi st so fin
    refine codeAny_builtin F.entry_set_update_loop ?_
    rw [Around.under_plainId F.plain_set_update_loop _]
    show wpAny _ A.in1 (pyNext (.ref I) >>= _) _ _ s
    refine wpAny_bind (W.item i s _ _ (by omega) st fun v s' pv st' mv => ?_)
    obtain ⟨t, rfl⟩ := hval i v pv
    have so' : s'.heap.SetOf (intKind prog w) S (fun z => (firstMet val i).any (· == z)) (firstMet val i).length := by
      obtain ⟨o, es, ep, tb, ho, more⟩ := so
      exact ⟨o, es, ep, tb, mv.heap S _ off ho, more⟩
    show wpAny _ A.in1 (holding [Value.int (val i) t] (setAdd S (.int (val i) t)) >>= _) _ _ s'
    refine wpAny_bind (wpAny_holding ?_)
    unfold setAdd
    refine wpAny_holding (wpAny_bind ((intKind prog w).pyHash (k := val i) (intKind_is _ _ _ _) ?_))
    refine wpAny_setAddHashed_of (knd := intKind prog w) (s := { s' with toks := s'.toks + 1 }) (intKind_is _ _ _ _) rfl so' (few i) fun h' sb so2 => ?_
    have so3 : h'.SetOf (intKind prog w) S (fun z => (firstMet val (i + 1)).any (· == z)) (firstMet val (i + 1)).length := SetOf_congr so2 (fun z => by rw [firstMet_succ, step_any]) (by rw [firstMet_succ, step_length])
    have other : ∀ b, b ≠ S → h'.get? b = s'.heap.get? b := fun b z => sb.2 b z
    refine wpAny_pure ⟨plainId_quiet F.plain_set_update_loop _, ih (i + 1) _ (by omega) (W.frame _ s' _ _ st' (Nat.le_succ _) fun b hb o e => ?_) so3 fun s2 mv2 so4 => ?_⟩
    · exact (other b fun z => hS (z ▸ hb)).trans e
    · refine fin s2 (Moved.trans W.gtrans ((mv.mono wider).then_heap (Nat.le_succ _) fun b o hb e => ?_) mv2) so4
      exact (other b fun z => hb (z ▸ List.mem_cons_self)).trans e
/-- set(l), l a list of ints, few of them different -/
theorem set_few {l : Addr} {items : Array Value} {ns : List Int} {Q : Value → Shared → Prop} (hh : A.handled = none) (hl : s.heap.IsList l items) (hi : IntsAre items.toList ns) (few : ∀ i, (firstMet (fun i => ns.getD i 0) i).length + 1 < scanBound)
    (h : ∀ (h' : Heap) (tk : Nat), h'.SetOf (intKind prog w) s.heap.objs.size (fun z => (firstMet (fun i => ns.getD i 0) items.size).any (· == z)) (firstMet (fun i => ns.getD i 0) items.size).length →
      (∀ b o, b < s.heap.objs.size → s.heap.get? b = some o → h'.get? b = some o) → Q (.ref s.heap.objs.size) { s with heap := h', toks := tk }) : wpAny (model prog w) A (call (.type "set") [.ref l]) Q E s := by
  obtain ⟨mc, mt, mro⟩ := F.called_set.mro
  have made := F.called_set.made
  have sub := F.called_set.sub
  refine wpAny_call (codeAny_of_tree ?_)
  show wpAny _ _ (callAny (.type "set") _) _ _ _
  refine wpAny_pure ⟨Code.quiet_builtin _ (by decide +kernel), codeAny_builtin F.entry_type_call ?_⟩
  rw [Around.under_plain (weight_type_call_type "set" [.ref l] []) rfl]
  have nt := F.called_set.notType
  have cc := F.called_set.canCreate
  have tc := F.typeCall_set_1 (.ref l)
  repeat (any_goals (first | assumption | wp_step))
  -- the new set
  let so (led : Bool) : Obj := { cls := .type "set", dict := none, data := .set #[] 0 (.fresh 0 0 led) }
  refine codeAny_mono (code_set_new_1 (.ref l) (E := E) (Q₁ := fun u s1 => ∃ led : Bool, u = .ref s.heap.objs.size ∧ s1 = { s with heap := s.heap.push (so led) }) fun led => ⟨led, rfl, rfl⟩) fun r s1 hr => ?_
  cases r with
  | error e => exact hr
  | ok fl =>
    cases fl with
    | next => exact hr.elim
    | brk => exact hr.elim
    | cont => exact hr.elim
    | ret u =>
      obtain ⟨led, rfl, rfl⟩ := hr
      have gS : (s.heap.push (so led)).get? s.heap.objs.size = some (so led) := Heap.get?_push_size _ rfl
      have tS : Shared.TypeIs { s with heap := s.heap.push (so led) } (.ref s.heap.objs.size) "set" := ⟨_, gS, rfl⟩
      have il := F.called_set.init.lookup
      have ib := F.called_set.init.bind (.ref s.heap.objs.size)
      repeat (any_goals (first | assumption | wp_step))
      -- its filling
      let Done (r : Value) (s2 : Shared) : Prop := r = .none ∧ ∃ h' tk, s2 = { s with heap := h', toks := tk } ∧ h'.SetOf (intKind prog w) s.heap.objs.size (fun z => (firstMet (fun i => ns.getD i 0) items.size).any (· == z)) (firstMet (fun i => ns.getD i 0) items.size).length ∧
        (∀ b o, b < s.heap.objs.size → s.heap.get? b = some o → h'.get? b = some o)
      refine codeAny_mono (codeAny_call_builtin (R := wants Done E) F.called_set.init.plain F.entry_set_init (check_set_init_1 tS ?_)) fun r2 s2 hr2 => ?_
      · obtain ⟨ol, gl, cl, nl, dl⟩ := hl
        obtain ⟨oc, od, ot, osl⟩ := ol
        simp only at cl dl
        subst cl dl
        have gl2 : (s.heap.push (so led)).get? l = some { cls := .type "list", dict := od, data := .seq items nl, slots := osl } := Heap.get?_push_of_some _ gl
        have il2 : (s.heap.push (so led)).IsList l items := ⟨_, gl2, rfl, nl, rfl⟩
        have z1 := F.sub_list_set
        have z2 := F.sub_list_frozenset
        have z3 : (Value.type "list" == Value.type "dict") = false := by decide
        unfold Builtin.«set.__init__» noKeywords Builtin.Frozenset.updateFrom
        generalize hPI : pyIter = PI
        wp_walk
        subst hPI
        refine wpAny_pyIter_list il2 (wpAny_bind (wpAny_runValue ?_))
        have lt : l < s.heap.objs.size := Heap.lt_size gl
        have sz : (s.heap.push (so led)).objs.size = s.heap.objs.size + 1 := Heap.size_push ..
        have hd3 : A.in1.in1.in1.handled = none := by simp [hh]
        have n1 : l ≠ (s.heap.push (so led)).objs.size := by
          rw [sz]
          exact Nat.ne_of_lt (Nat.lt_succ_of_lt lt)
        have n2 : s.heap.objs.size ∉ [(s.heap.push (so led)).objs.size, l] := by
          rw [sz]
          simp only [List.mem_cons, List.not_mem_nil, or_false, not_or]
          exact ⟨Nat.ne_of_lt (Nat.lt_succ_self _), Nat.ne_of_gt lt⟩
        refine few_loop ((Walks.list hd3 _ l n1 items).toS) n2 (fun i => ns.getD i 0) (fun i v hv => IntsAre.int_at hi i v (by rw [Array.getElem?_toList]; exact hv)) few items.size 0 _ (Nat.zero_add _) ⟨⟨_, Heap.get?_push_size _ rfl, rfl, rfl⟩, il2.push _⟩ ?_ fun s' mv so' => ?_
        · have g2 : ((s.heap.push (so led)).push { cls := .type "list_iterator", data := .fields #[.ref l, .int 0 0] }).get? s.heap.objs.size = some (so led) := Heap.get?_push_of_some _ gS
          exact SetOf_congr ((setObjOf_fresh (knd := intKind prog w) led).setOf g2 (by decide)) (fun _ => rfl) rfl
        · obtain ⟨h', g', d', tk', os'⟩ := s'
          have q1 : g' = s.gens := mv.gens
          have q2 : d' = s.drawn := mv.drawn
          have q3 : os' = s.os := mv.os
          subst q1 q2 q3
          show wpAny _ _ _ _ _ _
          refine wpAny_pure ?_
          show wpAny _ _ (ret Value.none) _ _ _
          refine wpAny_pure ⟨rfl, h', tk', rfl, so', fun b o hb e => ?_⟩
          refine mv.heap b o ?_ (Heap.get?_push_of_some _ (Heap.get?_push_of_some _ e))
          simp only [List.mem_cons, List.not_mem_nil, or_false, not_or]
          refine ⟨Nat.ne_of_lt hb, ?_⟩
          rw [sz]
          exact Nat.ne_of_lt (Nat.lt_succ_of_lt hb)
      · cases r2 with
        | error e => exact hr2
        | ok fl2 =>
          cases fl2 with
          | next => exact hr2.elim
          | brk => exact hr2.elim
          | cont => exact hr2.elim
          | ret r =>
            obtain ⟨rfl, h', tk, rfl, so', keep⟩ := hr2
            repeat (any_goals (first | assumption | wp_step))
            exact h _ _ so' keep
end
/-- how many different ones of such a list -/
def kindsN (ns : List Int) : Nat := (firstMet (fun i => ns.getD i 0) ns.length).length
theorem kindsN_one {ns : List Int} {k : Int} (hk : ns.head? = some k) : kindsN ns ≤ 1 ↔ ∀ z ∈ ns, z = k := by
  unfold kindsN
  have h0 : ns.getD 0 0 = k := by
    cases ns with
    | nil => cases hk
    | cons a r => exact Option.some.inj hk
  have hl : 0 < ns.length := by
    cases ns with
    | nil => cases hk
    | cons a r => simp
  constructor
  · intro h z hz
    obtain ⟨j, hj, e⟩ := List.getElem_of_mem hz
    have m1 := met_has (fun i => ns.getD i 0) ns.length 0 hl
    have m2 := met_has (fun i => ns.getD i 0) ns.length j hj
    have e2 : ns.getD j 0 = z := by rw [List.getD_eq_getElem?_getD, List.getElem?_eq_getElem hj, e]; rfl
    rw [h0] at m1
    rw [e2] at m2
    generalize firstMet (fun i => ns.getD i 0) ns.length = l at *
    match l, h with
    | [], _ => cases m1
    | [x], _ =>
      rw [List.mem_singleton.mp m1, List.mem_singleton.mp m2]
  · intro h
    have nd := met_nodup (fun i => ns.getD i 0) ns.length
    have sub : firstMet (fun i => ns.getD i 0) ns.length ⊆ [k] := fun z hz => by
      obtain ⟨j, hj, e⟩ := met_in (fun i => ns.getD i 0) ns.length z hz
      have : z ∈ ns := by
        have e2 : ns.getD j 0 = ns[j] := by rw [List.getD_eq_getElem?_getD, List.getElem?_eq_getElem hj]; rfl
        rw [← e, e2]
        exact List.getElem_mem hj
      rw [h z this]
      simp
    simpa using List.Nodup.length_le_of_subset nd sub
section
variable {X : Cx}
def tLenSet (K : PySem.W.Frag) (ta : TE) : TE := fun σ H Q => ta σ H fun x H1 => ∃ (l : Addr) (ns : List Int), x = V.ref l ∧ SqL K H1 l (ns.map V.int) ∧ (∀ k ∈ ns, 0 ≤ k ∧ k ≤ 3) ∧ Q (.int (kindsN ns)) H1
theorem pe_lenSet {a : Expr} {ta : TE} {p p2 q pos : Pos} (hc : X.calm = true) (hg : Gl X "len") (hm : X.mg "len" = none) (hg2 : Gl X "set") (hm2 : X.mg "set" = none) (ha : PE X a ta) (na : starEach [a] X.env = (false, eval a X.env) :: starEach [] X.env := by rfl) :
    PE X (.Call (.Name "len" p) [.Call (.Name "set" p2) [a] [] q] [] pos) (tLenSet X.K ta) := by
  refine ⟨fun pins s σ H Q I h => Call_ (ld_blt I hg hm PySem.boot_len (callWith_builtin1 (args_cons (Call_ (ld_blt I hg2 hm2 boot_set ?_)) rfl) rfl rfl))⟩
  refine callWith_type1 (args_cons (thn (ha.run pins s σ H _ I h) fun v s1 ⟨x, H1, I1, r1, l, ns, ex, hq, hk, q1⟩ => args_nil ?_) na) na rfl
  subst ex
  cases r1
  obtain ⟨its, r, pl, hz⟩ := I1.list hq
  have hl : its.toArray.size = ns.length := by rw [List.size_toArray, ← r.length, List.length_map]
  have few : ∀ i, (firstMet (fun i => ns.getD i 0) i).length + 1 < scanBound := fun i => by
    have := nodup_small _ (met_nodup (fun i => ns.getD i 0) i) fun k hk2 => by
      obtain ⟨j, _, e⟩ := met_in _ i k hk2
      rw [List.getD_eq_getElem?_getD] at e
      cases e2 : ns[j]? with
      | none => rw [e2] at e; rw [← e]; exact ⟨by decide, by decide⟩
      | some z =>
        rw [e2] at e
        rw [← e]
        exact hk z (List.mem_of_getElem? e2)
    unfold scanBound
    omega
  refine set_few (I1.ok.hd hc) pl.isList (ns := ns) (by simpa using r.ints) few fun h' tk hS keep => args_nil ?_
  rw [hl] at hS
  obtain ⟨o, es, ep, t, ho, hex, hd, _, _, _, hf, hn⟩ := hS
  have I2 : Inv X pins σ H1 { s1 with heap := h', toks := tk } := I1.kept fun b o e => keep b o (Heap.lt_size e) e
  have hsz : (firstMet (fun i => ns.getD i 0) ns.length).length + 1 < scanBound := few ns.length
  refine call_len_set ho hex hd hf (by rw [hn]; unfold scanBound at hsz; omega) ⟨.int (kindsN ns), H1, I2.tok _, ⟨_, by rw [hn]; rfl⟩, q1⟩
end
end SF
end -- D4

section -- D5
set_option Elab.async false
set_option linter.all false
set_option maxRecDepth 100000
set_option maxHeartbeats 2000000
/-! # D5: the sorted names are the specification's names -/
namespace SF
open PySem PySem.Spec PyProof.Rows L2
open PySem.W (alike alikeAll dataLe dataLt rowLt dataLt_ints dataLt_tuple dataLe_eq)
open Vacolb (textLess)
theorem text_lt : ∀ s t : List Nat, textLess s t = decide ((s.map Int.ofNat) < (t.map Int.ofNat))
  | [], [] => by simp [textLess]
  | [], _ :: _ => by simp [textLess]
  | _ :: _, [] => by simp [textLess]
  | c :: s, e :: t => by
    rw [textLess, text_lt s t, List.map_cons, List.map_cons]
    have h : ((Int.ofNat c :: s.map Int.ofNat) < (Int.ofNat e :: t.map Int.ofNat)) ↔ (Int.ofNat c < Int.ofNat e ∨ (Int.ofNat c = Int.ofNat e ∧ s.map Int.ofNat < t.map Int.ofNat)) := List.cons_lt_cons_iff
    have h3 : (Int.ofNat c < Int.ofNat e) ↔ c < e := Int.ofNat_lt
    have h4 : (Int.ofNat c = Int.ofNat e) ↔ c = e := ⟨Int.ofNat.inj, fun z => congrArg _ z⟩
    rw [h3, h4] at h
    rw [Bool.eq_iff_iff]
    simp only [Bool.or_eq_true, decide_eq_true_eq, Bool.and_eq_true, beq_iff_eq]
    exact h.symm
theorem nm_less (s t : List Nat) : dataLt (nmD s) (nmD t) = textLess s t := by
  unfold nmD
  rw [dataLt_tuple]
  have e : ∀ l : List Nat, (l.map fun c => PyData.int (Int.ofNat c)) = (l.map Int.ofNat).map PyData.int := fun l => by rw [List.map_map]; rfl
  rw [e, e]
  have := dataLt_ints (s.map Int.ofNat) (t.map Int.ofNat)
  unfold rowLt at this
  rw [this, text_lt]
/-! ### the order of names -/
theorem tl_irrefl : ∀ s, textLess s s = false
  | [] => rfl
  | a :: s => by simp [textLess, tl_irrefl s]
theorem tl_trans : ∀ {s t u}, textLess s t = true → textLess t u = true → textLess s u = true
  | _, [], _, h, _ => by cases ‹List Nat› <;> simp [textLess] at h
  | [], _ :: _, [], _, h => by simp [textLess] at h
  | [], _ :: _, _ :: _, _, _ => rfl
  | _ :: _, _ :: _, [], _, h => by simp [textLess] at h
  | a :: s, b :: t, c :: u, h1, h2 => by
    simp only [textLess, Bool.or_eq_true, decide_eq_true_eq, Bool.and_eq_true, beq_iff_eq] at *
    rcases h1 with h1 | ⟨rfl, h1⟩
    · rcases h2 with h2 | ⟨rfl, h2⟩
      · exact .inl (by omega)
      · exact .inl h1
    · rcases h2 with h2 | ⟨rfl, h2⟩
      · exact .inl h2
      · exact .inr ⟨rfl, tl_trans h1 h2⟩
theorem tl_total : ∀ {s t}, textLess s t = false → textLess t s = false → s = t
  | [], [], _, _ => rfl
  | [], _ :: _, h, _ => by simp [textLess] at h
  | _ :: _, [], _, h => by simp [textLess] at h
  | a :: s, b :: t, h1, h2 => by
    simp only [textLess, Bool.or_eq_false_iff, decide_eq_false_iff_not, Bool.and_eq_false_iff] at *
    have e : a = b := by omega
    subst e
    rcases h1.2 with h | h
    · simp at h
    · rcases h2.2 with h' | h'
      · simp at h'
      · rw [tl_total h h']
theorem tl_asymm {s t} (h : textLess s t = true) : textLess t s = false := by
  cases e : textLess t s with
  | false => rfl
  | true =>
    have := tl_trans h e
    rw [tl_irrefl] at this
    cases this
/-- strictly rising -/
abbrev Rise (l : List (List Nat)) : Prop := l.Pairwise fun a b => textLess a b = true
theorem rise_uniq : ∀ {l m : List (List Nat)}, Rise l → Rise m → (∀ x, x ∈ l ↔ x ∈ m) → l = m
  | [], [], _, _, _ => rfl
  | [], b :: m, _, _, h => absurd ((h b).mpr (by simp)) (by simp)
  | a :: l, [], _, _, h => absurd ((h a).mp (by simp)) (by simp)
  | a :: l, b :: m, hl, hm, h => by
    obtain ⟨h1, h2⟩ := List.pairwise_cons.mp hl
    obtain ⟨k1, k2⟩ := List.pairwise_cons.mp hm
    have e : a = b := by
      rcases List.mem_cons.mp ((h a).mp (by simp)) with z | z
      · exact z
      · rcases List.mem_cons.mp ((h b).mpr (by simp)) with z2 | z2
        · exact z2.symm
        · have := tl_asymm (k1 a z)
          rw [h1 b z2] at this
          cases this
    subst e
    have : l = m := rise_uniq h2 k2 fun x => by
      constructor
      · intro hx
        rcases List.mem_cons.mp ((h x).mp (List.mem_cons_of_mem _ hx)) with z | z
        · have := h1 x hx
          rw [z, tl_irrefl] at this
          cases this
        · exact z
      · intro hx
        rcases List.mem_cons.mp ((h x).mpr (List.mem_cons_of_mem _ hx)) with z | z
        · have := k1 x hx
          rw [z, tl_irrefl] at this
          cases this
        · exact z
    rw [this]
theorem enter_mem (s : List Nat) : ∀ (l : List (List Nat)) (x), x ∈ Vacolo.enter s l ↔ x = s ∨ x ∈ l
  | [], x => by simp [Vacolo.enter]
  | u :: r, x => by
    unfold Vacolo.enter
    split
    · simp
    · split
      · rename_i h
        subst h
        simp
      · rw [List.mem_cons, enter_mem s r x, List.mem_cons]
        constructor
        · rintro (h | h | h)
          · exact .inr (.inl h)
          · exact .inl h
          · exact .inr (.inr h)
        · rintro (h | h | h)
          · exact .inr (.inl h)
          · exact .inl h
          · exact .inr (.inr h)
theorem enter_rise (s : List Nat) : ∀ {l : List (List Nat)}, Rise l → Rise (Vacolo.enter s l)
  | [], _ => List.pairwise_singleton ..
  | u :: r, h => by
    obtain ⟨h1, h2⟩ := List.pairwise_cons.mp h
    unfold Vacolo.enter
    split
    · rename_i c
      refine List.pairwise_cons.mpr ⟨fun x hx => ?_, h⟩
      rcases List.mem_cons.mp hx with z | z
      · rw [z]
        exact c
      · exact tl_trans c (h1 x z)
    · split
      · exact h
      · rename_i c c2
        refine List.pairwise_cons.mpr ⟨fun x hx => ?_, enter_rise s h2⟩
        rcases (enter_mem s r x).mp hx with z | z
        · rw [z]
          cases e : textLess u s with
          | true => rfl
          | false => exact (c2 (tl_total (by simpa using c) e)).elim
        · exact h1 x z
theorem names_mem : ∀ (l : List (List Nat)) (x), x ∈ Vacolo.names l ↔ x ∈ l
  | [], x => Iff.rfl
  | a :: l, x => by
    show x ∈ Vacolo.enter a (Vacolo.names l) ↔ _
    rw [enter_mem, names_mem l x, List.mem_cons]
theorem names_rise : ∀ (l : List (List Nat)), Rise (Vacolo.names l)
  | [] => List.Pairwise.nil
  | a :: l => enter_rise a (names_rise l)
theorem sortN_names {ns l : List (List Nat)} (hn : ns.Nodup) (hm : ∀ x, x ∈ ns ↔ x ∈ l) : sortN ns = Vacolo.names l := by
  have le : dataLe false nmD = fun a b => !textLess b a := by
    rw [dataLe_eq]
    funext a b
    show (!dataLt (nmD b) (nmD a)) = _
    rw [nm_less]
  refine rise_uniq ?_ (names_rise l) fun x => ?_
  · unfold sortN
    rw [le]
    have hp := List.pairwise_mergeSort (le := fun a b => !textLess b a) (fun a b c h1 h2 => ?_) (fun a b => ?_) ns
    · have hnd : (ns.mergeSort fun a b => !textLess b a).Nodup := (List.mergeSort_perm ns _).nodup_iff.mpr hn
      refine (hp.and hnd).imp fun {a b} h => ?_
      cases e : textLess a b with
      | true => rfl
      | false => exact (h.2 (tl_total e (by simpa using h.1))).elim
    · cases e : textLess c a with
      | false => rfl
      | true =>
        exfalso
        have h1' : textLess b a = false := by simpa using h1
        have h2' : textLess c b = false := by simpa using h2
        cases e2 : textLess a b with
        | true =>
          have := tl_trans e e2
          rw [h2'] at this
          cases this
        | false =>
          have := tl_total e2 h1'
          subst this
          rw [h2'] at e
          cases e
    · cases e : textLess b a with
      | false => simp
      | true => simp [tl_asymm e]
  · unfold sortN
    rw [List.mem_mergeSort, hm, names_mem]
end SF
end -- D5

section -- S1
set_option Elab.async false
set_option linter.all false
set_option maxRecDepth 100000
set_option maxHeartbeats 4000000
/-! # S1: bytes_of, bits_for, number_kind, rows_of_names -/
namespace SF
open PySem PySem.Spec PyProof.Rows L2
variable {P : Program} {w : World} {K : PySem.W.Frag} {mg : Str → Option Value} {base : Heap}
/-! ### bytes_of -/
abbrev zT (z : Str) : List Nat := z.cps.toList
theorem vT_app (a b : List Nat) : vT (a ++ b) = vT a ++ vT b := List.map_append
/-- a new list of bytes -/
def NewB (H : Hp) (Q : VK) (t : List Nat) : Prop := ∀ H' l, Same H H' → H l = none → H' l = some (.lst (vT t)) → Q (.ref l) H'
theorem NewB.from {H H1 : Hp} {Q : VK} {t : List Nat} (h : NewB H Q t) (s : Same H H1) : NewB H1 Q t := fun H' l s2 h0 h1 => h H' l (s.trans s2) (Same.fresh s h0) h1
def spBytes : Sp := fun vs H Q _ => ∃ z : Str, vs = [.str z] ∧ z.cps.size ≤ 1000 ∧ NewB H Q (zT z)
abbrev bytN : List Str := ["text", "sign"]
theorem sc_bytes_of : FnScope bytN ["text"] (defScope s_bytes_of) := ⟨rfl, rfl, rfl, by decide +kernel, rfl, by decide +kernel, by decide +kernel⟩
theorem ok_bytes_of (T : Txt K mg) : DefOk P w K mg base CX0 1 (He.ga K "bytes_of") ["text"] spBytes := by
  obtain ⟨fd, F⟩ := dT T defsB (.inr (.inl rfl)) 1 rfl
  refine ⟨fd, ?_, bind1 F fun _ _ _ _ _ _ _ => rfl, F.kp⟩
  have mord := T.free "ord" (by decide +kernel)
  have nd := sc_bytes_of.nd
  refine F.ok sc_bytes_of (fun vs H Q E h => by obtain ⟨z, rfl, _⟩ := h; rfl) (fun cdv A outer s H vs Q E hr h => ⟨_,
    (pss_one (ps_ret (pe_lc (own := [("sign", 1)]) (g := gName 1) (tt := tYes) rfl nd (pi_str (pv 0)) (blkOk_by (N := bytN) (sc := defScope s_bytes_of) (by decide +kernel))
      (fun _ _ _ _ _ => pg_name (i := 1) nd rfl (Or.inl rfl)) (fun _ _ _ _ _ => pts_nil) (fun _ _ _ _ _ => pe_callB call_ord rfl mord (by decide +kernel) (pa_cons (pv 1) pa_nil))))), ?_⟩)
  obtain ⟨z, rfl, hz, q⟩ := h
  refine ⟨_, rfl, z, rfl, fun D hD => lc_it walk_str (fun i H' => H' = upd H D (.lst (vT ((zT z).take i)))) (by rfl) (fun _ _ _ _ => trivial) ?_ ?_⟩
  · rintro i x H1 H2 hi rfl ⟨rfl, c, hc, rfl⟩
    have hc' : (zT z)[i]? = some c := by rw [Array.getElem?_toList]; exact hc
    refine ⟨rfl, ⟨_, rfl, ⟨#[c]⟩, rfl, rfl, _, upd_same, ?_, ?_⟩⟩
    · have : sizeLine = 16777216 := rfl
      have hsz : (zT z).length = z.cps.size := Array.length_toList
      rw [List.length_map, List.length_take]
      omega
    · rw [upd_upd, take_more hc', vT_app]
      rfl
  · rintro H1 rfl
    have e : (zT z).take z.cps.size = zT z := List.take_of_length_le (Nat.le_of_eq Array.length_toList)
    rw [e]
    exact q _ D (same_new hD) hD upd_same
/-! ### bits_for -/
/-- whether so many bits hold both -/
def inn (n : Nat) (lo hi : Int) : Bool := decide (-(2 ^ (n - 1) : Int) ≤ lo) && decide (hi < (2 ^ (n - 1) : Int))
/-- the least so many -/
def IsBits (lo hi : Int) (n : Nat) : Prop := 2 ≤ n ∧ n ≤ 64 ∧ inn n lo hi = true ∧ ∀ m, 2 ≤ m → m < n → inn m lo hi = false
def Ext (ns : List Int) (lo hi : Int) : Prop := lo ∈ ns ∧ hi ∈ ns ∧ (∀ y ∈ ns, lo ≤ y) ∧ ∀ y ∈ ns, y ≤ hi
theorem Ext.min {ns : List Int} {lo hi m : Int} (e : Ext ns lo hi) (h1 : m ∈ ns) (h2 : ∀ y ∈ ns, m ≤ y) : m = lo := by
  have := e.2.2.1 m h1
  have := h2 lo e.1
  omega
theorem Ext.max {ns : List Int} {lo hi m : Int} (e : Ext ns lo hi) (h1 : m ∈ ns) (h2 : ∀ y ∈ ns, y ≤ m) : m = hi := by
  have := e.2.2.2 m h1
  have := h2 hi e.2.1
  omega
theorem Ext.pos {ns : List Int} {lo hi : Int} (e : Ext ns lo hi) : 0 < ns.length := List.length_pos_of_mem e.1
def spBits (K : PySem.W.Frag) : Sp := fun vs H Q _ => ∃ (a : Addr) (ns : List Int) (lo hi : Int), vs = [.ref a] ∧ SqL K H a (ns.map V.int) ∧ Ext ns lo hi ∧ inn 64 lo hi = true ∧ ∀ n, IsBits lo hi n → Q (.int (n : Int)) H
theorem sc_bits_for : FnScope ["numbers", "found"] ["numbers"] (defScope s_bits_for) := ⟨rfl, rfl, rfl, by decide +kernel, rfl, by decide +kernel, by decide +kernel⟩
theorem pow_shl (n : Nat) (hn : 1 ≤ n) : (1 : Int) * 2 ^ (((n : Int) - 1).toNat) = 2 ^ (n - 1) := by
  have : ((n : Int) - 1).toNat = n - 1 := by omega
  rw [this, Int.one_mul]
theorem ok_bits_for (T : Txt K mg) : DefOk P w K mg base CX0 1 (He.ga K "bits_for") ["numbers"] (spBits K) := by
  obtain ⟨fd, F⟩ := dT T defsB (.inr (.inl rfl)) 8 rfl
  refine ⟨fd, ?_, bind1 F fun _ _ _ _ _ _ _ => rfl, F.kp⟩
  have mmin := T.free "min" (by decide +kernel)
  have mmax := T.free "max" (by decide +kernel)
  have nd := sc_bits_for.nd
  refine F.ok sc_bits_for (fun vs H Q E h => by obtain ⟨a, ns, lo, hi, rfl, _⟩ := h; rfl) (fun cdv A outer s H vs Q E hr h => ⟨_,
    (pss_cons (ps_set (i := 1) nd rfl (.inl rfl) pe_int)
    (pss_cons (ps_while PassesOwn.never (PW.pt (pw_or (pt_cmpR op_lt (pe_callB (cr_min rfl) rfl mmin (by decide +kernel) (pa_cons (pv 0) pa_nil)) (pe_op op_sub pe_int (pe_op op_shl pe_int (pe_op op_sub (pv 1) pe_int))) (nomark _))
        (pw_or1 (pt_cmpR op_ge (pe_callB (cr_max rfl) rfl mmax (by decide +kernel) (pa_cons (pv 0) pa_nil)) (pe_op op_shl pe_int (pe_op op_sub (pv 1) pe_int)) (nomark _)))))
      (pss_one (ps_aug (i := 1) nd rfl (.inl rfl) pe_int ip_add)))
    (pss_one (ps_ret (pv 1))))), ?_⟩)
  obtain ⟨a, ns, lo, hi, rfl, hS, ext, h64, q⟩ := h
  refine ⟨fun m σ H' => ∃ n : Nat, m = 64 - n ∧ σ = [some (.ref a), some (.int (n : Int))] ∧ H' = H ∧ 2 ≤ n ∧ n ≤ 64 ∧ ∀ k, 2 ≤ k → k < n → inn k lo hi = false, ⟨_, 2, rfl, rfl, rfl, by decide, by decide, fun k h1 h2 => by omega⟩, ?_⟩
  rintro m σ H' ⟨n, rfl, rfl, eH, h2, hle, hno⟩
  replace eH := eH.symm
  subst eH
  have next : inn n lo hi = false → ∃ m', m' < 64 - n ∧ ∃ n' : Nat, m' = 64 - n' ∧ ([some (.ref a), some (.int ((n : Int) + 1))] : L2.St) = [some (.ref a), some (.int (n' : Int))] ∧ 2 ≤ n' ∧ n' ≤ 64 ∧ ∀ k, 2 ≤ k → k < n' → inn k lo hi = false := fun hf => by
    have hlt : n < 64 := by
      by_cases e : n = 64
      · rw [e, h64] at hf
        cases hf
      · omega
    refine ⟨64 - (n + 1), by omega, n + 1, rfl, by rw [Int.natCast_add]; rfl, by omega, by omega, fun k a1 a2 => ?_⟩
    by_cases e : k = n
    · rw [e]
      exact hf
    · exact hno k a1 (by omega)
  have two : (1 : Int) * 2 ^ (((n : Int) - 1).toNat) = 2 ^ (n - 1) := pow_shl n (by omega)
  refine ⟨_, rfl, a, ns, rfl, hS, ext.pos, fun m1 hm1 hm2 => ?_⟩
  have e1 := ext.min hm1 hm2
  subst e1
  refine ⟨_, rfl, _, _, rfl, rfl, _, _, rfl, rfl, ⟨by omega, by omega, by decide⟩, _, _, rfl, rfl, _, _, rfl, rfl, _, rfl, ifb (fun c => ?_) fun c => ?_⟩
  · have c' := of_decide_eq_true c
    rw [two] at c'
    refine ⟨fun σ' H2 => ∃ m', m' < 64 - n ∧ ∃ n' : Nat, m' = 64 - n' ∧ σ' = [some (.ref a), some (.int (n' : Int))] ∧ H2 = H ∧ 2 ≤ n' ∧ n' ≤ 64 ∧ ∀ k, 2 ≤ k → k < n' → inn k m1 hi = false, fun _ _ z => z, _, rfl, _, _, rfl, rfl, ?_⟩
    obtain ⟨m', z1, n', z2, z3, z4, z5, z6⟩ := next (by
      unfold inn
      rw [decide_eq_false (by omega), Bool.false_and])
    exact ⟨m', z1, n', z2, z3, rfl, z4, z5, z6⟩
  · have c' := of_decide_eq_false c
    rw [two] at c'
    refine ⟨_, rfl, a, ns, rfl, hS, ext.pos, fun m2 hm3 hm4 => ?_⟩
    have e2 := ext.max hm3 hm4
    subst e2
    refine ⟨_, rfl, _, _, rfl, rfl, _, _, rfl, rfl, ⟨by omega, by omega, by decide⟩, _, _, rfl, rfl, _, rfl, ifb (fun c2 => ?_) fun c2 => ?_⟩
    · have c2' := of_decide_eq_true c2
      rw [two] at c2'
      refine ⟨fun σ' H2 => ∃ m', m' < 64 - n ∧ ∃ n' : Nat, m' = 64 - n' ∧ σ' = [some (.ref a), some (.int (n' : Int))] ∧ H2 = H ∧ 2 ≤ n' ∧ n' ≤ 64 ∧ ∀ k, 2 ≤ k → k < n' → inn k m1 m2 = false, fun _ _ z => z, _, rfl, _, _, rfl, rfl, ?_⟩
      obtain ⟨m', z1, n', z2, z3, z4, z5, z6⟩ := next (by
        unfold inn
        rw [decide_eq_false (p := m2 < _) (by omega), Bool.and_false])
      exact ⟨m', z1, n', z2, z3, rfl, z4, z5, z6⟩
    · have c2' := of_decide_eq_false c2
      rw [two] at c2'
      refine ⟨_, rfl, q n ⟨h2, hle, ?_, hno⟩⟩
      unfold inn
      rw [decide_eq_true (p := _ ≤ m1) (by omega), decide_eq_true (p := m2 < _) (by omega)]
      rfl
end SF
end -- S1

section -- S2
set_option Elab.async false
set_option linter.all false
set_option maxRecDepth 100000
set_option maxHeartbeats 4000000
/-! # S2: digits, number_kind, rows_of_names, path_told, is_open -/
namespace SF
open PySem PySem.Spec PyProof.Rows L2
variable {P : Program} {w : World} {K : PySem.W.Frag} {mg : Str → Option Value} {base : Heap}
/-! ### digits -/
theorem core_digits : ∀ (f n : Nat) (ds : List Char), n < f → (Nat.toDigitsCore 10 f n ds).map Char.toNat = Vacola.digitsBefore f n (ds.map Char.toNat) := by
  intro f
  induction f with
  | zero => intro n ds h; omega
  | succ f ih =>
    intro n ds h
    have dig : ∀ d, d < 10 → (Nat.digitChar d).toNat = 48 + d := by decide
    rw [Nat.toDigitsCore, Vacola.digitsBefore]
    by_cases h10 : n < 10
    · rw [if_pos h10]
      have e : n / 10 = 0 := by omega
      rw [if_pos e]
      have : n % 10 = n := Nat.mod_eq_of_lt h10
      simp only [List.map_cons, this, dig n h10]
    · rw [if_neg h10, if_neg (by omega), ih _ _ (by omega)]
      simp only [List.map_cons, dig (n % 10) (Nat.mod_lt _ (by decide))]
theorem str_nat (n : Nat) : zT (Str.ofString (toString (n : Int))) = Vacola.decimal n := by
  have e : (toString (n : Int) : String) = n.repr := rfl
  rw [Str.ofString_eq_toList, e]
  show ((n.repr).toList.map Char.toNat).toArray.toList = _
  have e2 : n.repr.toList = Nat.toDigits 10 n := by
    unfold Nat.repr
    first
    | rfl
    | simp
  rw [e2]
  exact core_digits (n + 1) n [] (Nat.lt_succ_self n)
/-! ### number_kind -/
/-- a number kind's text -/
def IsNumT (lo hi : Int) (t : List Nat) : Prop := (0 ≤ lo ∧ hi ≤ 1 ∧ t = [98]) ∨ (¬ (0 ≤ lo ∧ hi ≤ 1) ∧ ∃ n, IsBits lo hi n ∧ t = 105 :: Vacola.decimal n)
def spNumK (K : PySem.W.Frag) : Sp := fun vs H Q _ => ∃ (a : Addr) (ns : List Int) (lo hi : Int), vs = [.ref a] ∧ SqL K H a (ns.map V.int) ∧ Ext ns lo hi ∧ inn 64 lo hi = true ∧ ∀ t, IsNumT lo hi t → NewB H Q t
theorem sc_number_kind : FnScope ["numbers"] ["numbers"] (defScope s_number_kind) := ⟨rfl, rfl, rfl, by decide +kernel, rfl, by decide +kernel, by decide +kernel⟩
theorem log_small (n : Nat) (h : n < 2 ^ 1000) : n.log2 < 1920 := by
  by_cases z : n = 0
  · rw [z]
    decide
  · have := (Nat.log2_lt z).mpr (Nat.lt_of_lt_of_le h (Nat.pow_le_pow_right (by decide) (by decide : 1000 ≤ 1920)))
    exact this
theorem ok_number_kind (T : Txt K mg) : DefOk P w K mg base CX0 2 (He.ga K "number_kind") ["numbers"] (spNumK K) := by
  obtain ⟨fd, F⟩ := dT T defsB (.inr (.inl rfl)) 9 rfl
  refine ⟨fd, ?_, bind1 F fun _ _ _ _ _ _ _ => rfl, F.kp⟩
  have mmin := T.free "min" (by decide +kernel)
  have mmax := T.free "max" (by decide +kernel)
  have mstr := T.free "str" (by decide +kernel)
  refine F.ok sc_number_kind (fun vs H Q E h => by obtain ⟨a, ns, lo, hi, rfl, _⟩ := h; rfl) (fun cdv A outer s H vs Q E hr h => ⟨_,
    (pss_cons (ps_if (PW.pt (pw_and (pt_cmpR op_ge (pe_callB (cr_min rfl) rfl mmin (by decide +kernel) (pa_cons (pv 0) pa_nil)) pe_int (nomark _)) (pw_and1 (pt_cmpR op_le (pe_callB (cr_max rfl) rfl mmax (by decide +kernel) (pa_cons (pv 0) pa_nil)) pe_int (nomark _)))))
      (pss_one (ps_ret (pcall (ok_bytes_of T) hr (T.glo "bytes_of" (by decide +kernel)) pass0 (pa_cons (pe_str) pa_nil)))) pss_nil)
    (pss_one (ps_ret (pcall (ok_bytes_of T) hr (T.glo "bytes_of" (by decide +kernel)) pass0 (pa_cons (pe_op op_add_str pe_str (pe_callTy call_str_int rfl mstr (by decide +kernel) (pa_cons (pcall (ok_bits_for T) hr (T.glo "bits_for" (by decide +kernel)) pass0 (pa_cons (pv 0) pa_nil)) pa_nil))) pa_nil))))), ?_⟩)
  obtain ⟨a, ns, lo, hi, rfl, hS, ext, h64, q⟩ := h
  have bits : ¬ (0 ≤ lo ∧ hi ≤ 1) → ∀ D : Ends, D.rt = Q → tRet (tCall spBytes [] E (tCons (tOp (fun x y H Q => ∃ i j, x = .str i ∧ y = .str j ∧ i.length + j.length ≤ sizeLine ∧ Q (.str (i ++ j)) H) (tC (.str "i")) (tCB (fun xs H Q => ∃ i, xs = [.int i] ∧ i.natAbs.log2 < 1920 ∧ Q (.str (toString i)) H) (tCons (tCall (spBits K) [] E (tCons (tVar 0) tNil)) tNil))) tNil)) D [some (.ref a)] H := by
    intro hn D hD
    unfold tRet
    rw [hD]
    refine ⟨_, rfl, a, ns, lo, hi, rfl, hS, ext, h64, fun n hb => ?_⟩
    have hlog : ((n : Int).natAbs).log2 < 1920 := by
      rw [Int.natAbs_natCast]
      refine log_small n (Nat.lt_of_le_of_lt hb.2.1 (by decide))
    have e := str_nat n
    have hsz : (Str.ofString (toString (n : Int))).cps.size ≤ 900 := by
      have l1 : (zT (Str.ofString (toString (n : Int)))).length = (Vacola.decimal n).length := by rw [e]
      rw [Array.length_toList] at l1
      rw [l1]
      have : ∀ m, m ≤ 64 → (Vacola.decimal m).length ≤ 900 := by decide +kernel
      exact this n hb.2.1
    refine ⟨_, rfl, hlog, _, _, rfl, rfl, ?_, ?_⟩
    · have h1 : Str.length "i" = 1 := by decide +kernel
      have h2 : (Str.ofString (toString (n : Int))).length = (Str.ofString (toString (n : Int))).cps.size := rfl
      have h3 : sizeLine = 16777216 := rfl
      omega
    · refine ⟨_, rfl, ?_, ?_⟩
      · rw [Str.cps_append, Array.size_append]
        have h1 : (Str.ofString "i").cps.size = 1 := by decide +kernel
        omega
      · have ez : zT (Str.ofString "i" ++ Str.ofString (toString (n : Int))) = 105 :: Vacola.decimal n := by
          unfold zT
          rw [Str.cps_append, Array.toList_append]
          rw [show (Str.ofString (toString (n : Int))).cps.toList = Vacola.decimal n from e]
          have h1 : (Str.ofString "i").cps.toList = [105] := by decide +kernel
          rw [h1]
          rfl
        rw [ez]
        exact q _ (.inr ⟨hn, n, hb, rfl⟩)
  refine ⟨_, rfl, a, ns, rfl, hS, ext.pos, fun m1 hm1 hm2 => ?_⟩
  have e1 := ext.min hm1 hm2
  subst e1
  refine ⟨_, _, rfl, rfl, _, rfl, ifb (fun c => ?_) fun c => ?_⟩
  · have c' := of_decide_eq_true c
    refine ⟨_, rfl, a, ns, rfl, hS, ext.pos, fun m2 hm3 hm4 => ?_⟩
    have e2 := ext.max hm3 hm4
    subst e2
    refine ⟨_, _, rfl, rfl, _, rfl, ifb (fun c2 => ?_) fun c2 => ?_⟩
    · have c2' := of_decide_eq_true c2
      refine ⟨"b", rfl, by decide +kernel, ?_⟩
      have ez : zT (Str.ofString "b") = [98] := by decide +kernel
      rw [ez]
      exact q _ (.inl ⟨c', c2', rfl⟩)
    · have c2' := of_decide_eq_false c2
      exact bits (fun z => c2' z.2) _ rfl
  · have c' := of_decide_eq_false c
    exact ifF rfl (bits (fun z => c' z.1) _ rfl)
end SF
end -- S2

section -- S3
set_option Elab.async false
set_option linter.all false
set_option maxRecDepth 100000
set_option maxHeartbeats 4000000
/-! # S3: rows_of_names, path_told, is_open -/
namespace SF
open PySem PySem.Spec PyProof.Rows L2
open Vacolo (Loose)
variable {P : Program} {w : World} {K : PySem.W.Frag} {mg : Str → Option Value} {base : Heap}
/-- lists of names as they lie -/
def Rws (H : Hp) : List V → List (List (List Nat)) → Prop
  | [], [] => True
  | y :: ys, r :: rs => (∃ b ns, y = .ref b ∧ H b = some (.lst ns) ∧ Nms H ns r) ∧ Rws H ys rs
  | _, _ => False
theorem Rws.mono {H H' : Hp} (k : KpS H H') : ∀ {ys : List V} {rs : List (List (List Nat))}, Rws H ys rs → Rws H' ys rs
  | [], [], _ => trivial
  | y :: ys, r :: rs, ⟨⟨b, ns, e, h1, h2⟩, t⟩ => ⟨⟨b, ns, e, k _ _ h1 ⟨_, .inl rfl⟩, h2.mono fun a xs e => k _ _ e ⟨_, .inr rfl⟩⟩, t.mono k⟩
  | [], _ :: _, h => h.elim
  | _ :: _, [], h => h.elim
theorem Rws.len {H : Hp} : ∀ {ys : List V} {rs : List (List (List Nat))}, Rws H ys rs → ys.length = rs.length
  | [], [], _ => rfl
  | y :: ys, r :: rs, ⟨_, t⟩ => congrArg (· + 1) t.len
  | [], _ :: _, h => h.elim
  | _ :: _, [], h => h.elim
theorem Rws.at {H : Hp} : ∀ {ys : List V} {rs : List (List (List Nat))} {i : Nat} {y : V}, Rws H ys rs → ys[i]? = some y → ∃ b ns r, y = .ref b ∧ rs[i]? = some r ∧ H b = some (.lst ns) ∧ Nms H ns r
  | [], [], _, _, _, h => by simp at h
  | y :: ys, r :: rs, 0, z, ⟨⟨b, ns, e, h1, h2⟩, t⟩, hz => ⟨b, ns, r, (Option.some.inj hz).symm.trans e, rfl, h1, h2⟩
  | y :: ys, r :: rs, i + 1, z, ⟨_, t⟩, hz => by
    obtain ⟨b, ns, r', a1, a2, a3, a4⟩ := t.at (i := i) (y := z) hz
    exact ⟨b, ns, r', a1, a2, a3, a4⟩
  | [], _ :: _, _, _, h, _ => h.elim
  | _ :: _, [], _, _, h, _ => h.elim
theorem Rws.app {H : Hp} {b : Addr} {ns : List V} {r : List (List Nat)} (h1 : H b = some (.lst ns)) (h2 : Nms H ns r) : ∀ {ys : List V} {rs : List (List (List Nat))}, Rws H ys rs → Rws H (ys ++ [.ref b]) (rs ++ [r])
  | [], [], _ => ⟨⟨b, ns, rfl, h1, h2⟩, trivial⟩
  | y :: ys, r' :: rs, ⟨h, t⟩ => ⟨h, t.app h1 h2⟩
  | [], _ :: _, h => h.elim
  | _ :: _, [], h => h.elim
theorem Same.kp {H H' : Hp} (s : Same H H') : KpS H H' := fun a o e _ => s a o e
theorem RLs.at {H : Hp} : ∀ {xs : List V} {vs : List Loose} {i : Nat} {x : V}, RLs H xs vs → xs[i]? = some x → ∃ v, vs[i]? = some v ∧ RL H x v
  | _, _, _, _, .nil, h => by simp at h
  | _, _, 0, y, .cons a b, h => ⟨_, rfl, Option.some.inj h ▸ a⟩
  | _, _, i + 1, y, .cons a b, h => RLs.at b (i := i) (x := y) h
/-- a list of records -/
def Recs (vs : List Loose) (rs : List (List (List Nat × List Loose))) : Prop := vs = rs.map Loose.record
theorem RLs.recAt {H : Hp} {xs : List V} {rs : List (List (List Nat × List Loose))} {i : Nat} {x : V} (h : RLs H xs (rs.map Loose.record)) (hx : xs[i]? = some x) : ∃ r b fxs fs, x = .ref r ∧ rs[i]? = some fs ∧ H r = some (.tup [.int 2, .ref b]) ∧ H b = some (.lst fxs) ∧ RF H fxs fs := by
  obtain ⟨v, hv, r⟩ := h.at hx
  rw [List.getElem?_map] at hv
  cases e : rs[i]? with
  | none => rw [e] at hv; cases hv
  | some fs =>
    rw [e] at hv
    cases hv
    cases r with
    | record h1 h2 h3 => exact ⟨_, _, _, _, rfl, rfl, h1, h2, h3⟩
/-- parts of the text -/
def stAt (st : Stmt) (i : Nat) : Stmt := (defBody st).getD i (.Pass ⟨0, 0, 0, 0⟩)
def stE : Stmt → Expr
  | .Return (some e) _ => e
  | .Assign _ e _ => e
  | .Expr e _ => e
  | _ => .Constant .none 0 ⟨0, 0, 0, 0⟩
def lcSc : Expr → Scope
  | .ListComp _ _ sc _ => sc
  | _ => defScope s_Fault_init
/-- the context of a def's body that lets nothing out; that of a comprehension's block in it -/
abbrev cx0 (P : Program) (w : World) (K : PySem.W.Frag) (mg : Str → Option Value) (base : Heap) (N : List Str) (d : DefT) (cdv : Value) (A : Around) (outer : List Env) (s : Shared) (H : Hp) (E : XK) : Cx :=
  (cxOf CX0 P w K mg base N d.qual (defScope d.st) (He.fAd K d.at_) cdv A outer s H E).nox
abbrev inB (X : Cx) (sc : Scope) (s : Shared) (H : Hp) (C : Addr) (cl : List (Str × Addr)) (fp : List Addr) : Cx := X.blk s H sc (compEnvC sc cl C X.env) fp
def dB (i : Nat) : DefT := defsB.getD i ⟨("", none), "", "", s_Fault_init⟩
/-! ### rows_of_names -/
abbrev namesOf (rs : List (List (List Nat × List Loose))) : List (List (List Nat)) := rs.map fun fs => fs.map Prod.fst
def spRowsN (K : PySem.W.Frag) : Sp := fun vs H Q _ => ∃ (a : Addr) (xs : List V) (rs : List (List (List Nat × List Loose))), vs = [.ref a] ∧ SqL K H a xs ∧ RLs H xs (rs.map Loose.record) ∧ xs.length ≤ 1000000 ∧ (∀ fs ∈ rs, fs.length ≤ 1000000) ∧
  ∀ H' l ys, Same H H' → H l = none → H' l = some (.lst ys) → Rws H' ys (namesOf rs) → Q (.ref l) H'
abbrev rowN : List Str := ["values", "kind", "fields", "name", "occurrences"]
theorem sc_rows_of_names : FnScope rowN ["values"] (defScope s_rows_of_names) := ⟨rfl, rfl, rfl, by decide +kernel, rfl, by decide +kernel, by decide +kernel⟩
theorem ok_rows_of_names (T : Txt K mg) : DefOk P w K mg base CX0 1 (He.ga K "rows_of_names") ["values"] (spRowsN K) := by
  obtain ⟨fd, F⟩ := dT T defsB (.inr (.inl rfl)) 3 rfl
  refine ⟨fd, ?_, bind1 F fun _ _ _ _ _ _ _ => rfl, F.kp⟩
  have nd := sc_rows_of_names.nd
  refine F.ok sc_rows_of_names (fun vs H Q E h => by obtain ⟨a, xs, rs, rfl, _⟩ := h; rfl) (fun cdv A outer s H vs Q E hr h => ⟨_,
    (pss_one (ps_ret (pe_lc (own := [("kind", 1), ("fields", 2)]) (g := gTup K 2 (gCons (gName 1) (gCons (gName 2) gNil))) (tt := tYes) rfl nd (pi_list (pv 0)) (blkOk_by (N := rowN) (sc := defScope s_rows_of_names) (by decide +kernel))
      (fun _ _ _ _ _ => pg_tup rfl (pgs_cons (pg_name (i := 1) nd rfl (Or.inl rfl)) (pgs_cons (pg_name (i := 2) nd rfl (Or.inl rfl)) pgs_nil))) (fun _ _ _ _ _ => pts_nil)
      (fun s1 H1 C1 cl1 fp1 => pe_lc (X := inB (cx0 P w K mg base rowN (dB 3) cdv A outer s H E) (lcSc (stE (stAt s_rows_of_names 0))) s1 H1 C1 cl1 fp1) (wi := iList K (tVar 2)) (te := tVar 3) (own := [("name", 3), ("occurrences", 4)]) (g := gTup K 2 (gCons (gName 3) (gCons (gName 4) gNil))) (tt := tYes) rfl nd (pi_list (pv 2)) (blkOk_by (N := rowN) (sc := lcSc (stE (stAt s_rows_of_names 0))) (by decide +kernel))
        (fun _ _ _ _ _ => pg_tup rfl (pgs_cons (pg_name (i := 3) nd rfl (Or.inl rfl)) (pgs_cons (pg_name (i := 4) nd rfl (Or.inl rfl)) pgs_nil))) (fun _ _ _ _ _ => pts_nil) (fun _ _ _ _ _ => pv 3))))), ?_⟩)
  obtain ⟨a, xs, rs, rfl, hS, hR, hl, hlf, q⟩ := h
  have hsz : sizeLine = 16777216 := rfl
  refine ⟨_, rfl, a, rfl, ⟨_, hS⟩, fun D hD => ?_⟩
  refine lc_list (K := K) (a := a) (xs := xs) (fun i Hc => ∃ acc, Hc D = some (.lst acc) ∧ Rws (del Hc D) acc ((namesOf rs).take i) ∧ Same H Hc ∧ i ≤ xs.length)
    ⟨[], upd_same, trivial, same_new hD, Nat.zero_le _⟩ (fun i Hc _ ⟨acc, _, _, k3, _⟩ => k3.seq hS) ?_ ?_
  · rintro i y Hc hy ⟨acc, h1, h2, k3, hle⟩
    have hi := (List.getElem?_eq_some_iff.mp hy).1
    obtain ⟨r, b, fxs, fs, rfl, e1, e2, e3, e4⟩ := hR.recAt hy
    have e5 : (namesOf rs)[i]? = some (fs.map Prod.fst) := by rw [List.getElem?_map, e1]; rfl
    refine ⟨r, _, rfl, SqT.of (k3 _ _ e2), rfl, _, _, rfl, _, _, rfl, rfl, rfl, ?_⟩
    refine ⟨_, rfl, b, rfl, ⟨_, SqL.of (k3 _ _ e3)⟩, fun D2 hD2 => ?_⟩
    have nD : D2 ≠ D := fun z => by
      rw [z, h1] at hD2
      cases hD2
    refine lc_list (K := K) (a := b) (xs := fxs) (fun j H3 => ∃ acc2, H3 D2 = some (.lst acc2) ∧ Nms H acc2 ((fs.map Prod.fst).take j) ∧ Same Hc H3 ∧ j ≤ fxs.length)
      ⟨[], upd_same, trivial, same_new hD2, Nat.zero_le _⟩ (fun j H3 _ ⟨_, _, _, k4, _⟩ => SqL.of (k4 _ _ (k3 _ _ e3))) ?_ ?_
    · rintro j z H3 hz ⟨acc2, g1, g2, k4, hj⟩
      have hj' := (List.getElem?_eq_some_iff.mp hz).1
      obtain ⟨f', n', o', s', vs', rfl, w1, w2, w3⟩ := e4.at hz
      refine ⟨f', _, rfl, SqT.of (k4 _ _ (k3 _ _ w2)), rfl, _, _, rfl, _, _, rfl, rfl, rfl, ?_⟩
      refine ⟨_, rfl, acc2, g1, ?_, acc2 ++ [.ref n'], upd_same, ?_, fun c o e => ?_, by omega⟩
      · have := g2.len
        have : acc2.length ≤ fxs.length := by rw [this, List.length_take]; omega
        have := e4.len
        have := hlf fs (List.mem_of_getElem? e1)
        omega
      · rw [take_more (x := s') (by rw [List.getElem?_map, w1]; rfl)]
        exact g2.app w3
      · rw [upd_ne (ne_of_none e hD2)]
        exact k4 c o e
    · rintro H3 ⟨acc2, g1, g2, k4, _⟩
      have efs : (fs.map Prod.fst).take fxs.length = fs.map Prod.fst := by
        rw [e4.len]
        exact List.take_of_length_le (by simp)
      rw [efs] at g2
      refine ⟨acc, k4 _ _ h1, ?_, acc ++ [.ref D2], upd_same, ?_, fun c o e => ?_, by omega⟩
      · have := h2.len
        have : acc.length ≤ xs.length := by rw [this, List.length_take]; omega
        omega
      · rw [take_more e5]
        refine (h2.mono fun c o e sq => ?_).app (b := D2) (ns := acc2) ?_ (g2.mono fun c o e => ?_)
        · by_cases z : c = D
          · rw [z, del_same] at e
            cases e
          · rw [del_ne z] at e ⊢
            rw [upd_ne z]
            exact k4 _ _ e
        · rw [del_ne nD, upd_ne nD]
          exact g1
        · have z := ne_of_none e hD
          rw [del_ne z, upd_ne z]
          exact k4 _ _ (k3 _ _ e)
      · rw [upd_ne (ne_of_none e hD)]
        exact k4 _ _ (k3 _ _ e)
  · rintro Hc ⟨acc, h1, h2, k3, _⟩
    have efs : (namesOf rs).take xs.length = namesOf rs := by
      have := hR.len
      rw [List.length_map] at this
      rw [this]
      exact List.take_of_length_le (by simp)
    rw [efs] at h2
    refine q Hc D acc k3 hD h1 (h2.mono fun c o e _ => ?_)
    by_cases z : c = D
    · rw [z, del_same] at e
      cases e
    · rw [del_ne z] at e
      exact e
/-! ### path_told -/
def pathT : List (List Nat) → List Nat
  | [] => []
  | [n] => n
  | n :: r => n ++ 46 :: pathT r
def spPath (K : PySem.W.Frag) : Sp := fun vs H Q _ => ∃ (a : Addr) (xs : List V) (ns : List (List Nat)), vs = [.ref a] ∧ SqL K H a xs ∧ Nms H xs ns ∧ ns.length ≤ 100 ∧ (∀ n ∈ ns, n.length ≤ 100) ∧ NewB H Q (Vacola.joinDots ns)
end SF
end -- S3

section -- S4
set_option Elab.async false
set_option linter.all false
set_option maxRecDepth 100000
set_option maxHeartbeats 4000000
/-! # S4: path_told, is_open -/
namespace SF
open PySem PySem.Spec PyProof.Rows L2
open Vacolo (Loose)
variable {P : Program} {w : World} {K : PySem.W.Frag} {mg : Str → Option Value} {base : Heap}
theorem dots_snoc : ∀ (l : List (List Nat)) (n : List Nat), Vacola.joinDots (l ++ [n]) = if l = [] then n else Vacola.joinDots l ++ 46 :: n
  | [], n => by rw [if_pos rfl]; rfl
  | [a], n => by rw [if_neg (by simp)]; rfl
  | a :: b :: r, n => by
    rw [if_neg (by simp)]
    have ih := dots_snoc (b :: r) n
    rw [if_neg (by simp)] at ih
    show a ++ (46 :: Vacola.joinDots ((b :: r) ++ [n])) = (a ++ (46 :: Vacola.joinDots (b :: r))) ++ 46 :: n
    rw [ih]
    simp
theorem dots_len : ∀ (l : List (List Nat)), (∀ n ∈ l, n.length ≤ 100) → (Vacola.joinDots l).length ≤ 101 * l.length
  | [], _ => by simp [Vacola.joinDots]
  | [a], h => by
    have := h a (by simp)
    simp only [Vacola.joinDots, List.length_cons, List.length_nil]
    omega
  | a :: b :: r, h => by
    have h1 := h a (by simp)
    have h2 := dots_len (b :: r) fun n hn => h n (List.mem_cons_of_mem _ hn)
    show (a ++ (46 :: Vacola.joinDots (b :: r))).length ≤ _
    simp only [List.length_append, List.length_cons] at *
    omega
abbrev pathN : List Str := ["path", "found", "at", "name"]
theorem sc_path_told : FnScope pathN ["path"] (defScope s_path_told) := ⟨rfl, rfl, rfl, by decide +kernel, rfl, by decide +kernel, by decide +kernel⟩
theorem ok_path_told (T : Txt K mg) : DefOk P w K mg base CX0 2 (He.ga K "path_told") ["path"] (spPath K) := by
  obtain ⟨fd, F⟩ := dT T defsB (.inr (.inl rfl)) 15 rfl
  refine ⟨fd, ?_, bind1 F fun _ _ _ _ _ _ _ => rfl, F.kp⟩
  have nd := sc_path_told.nd
  have menum := T.free "enumerate" (by decide +kernel)
  have mlist := T.free "list" (by decide +kernel)
  refine F.ok sc_path_told (fun vs H Q E h => by obtain ⟨a, xs, rs, rfl, _⟩ := h; rfl) (fun cdv A outer s H vs Q E hr h => ⟨_,
    (pss_cons (ps_set (i := 1) nd rfl (.inl rfl) (pe_lst pa_nil))
    (pss_cons (ps_for PassesOwn.never rfl (pi_enum rfl menum (pa_cons (pv 0) pa_nil)) (pg_tup rfl (pgs_cons (pg_name (i := 2) nd rfl (Or.inl rfl)) (pgs_cons (pg_name (i := 3) nd rfl (Or.inl rfl)) pgs_nil)))
      (pss_cons (ps_join (ps_if (pt_cmpR op_gt (pv 2) pe_int (nomark _)) (pss_one (ps_set (i := 1) nd rfl (.inl rfl) (pe_op op_cat (pv 1) (pcall (ok_bytes_of T) hr (T.glo "bytes_of" (by decide +kernel)) pass0 (pa_cons (pe_str) pa_nil))))) pss_nil))
    (pss_one (ps_set (i := 1) nd rfl (.inl rfl) (pe_op op_cat (pv 1) (pe_callTy call_list_of rfl mlist (by decide +kernel) (pa_cons (pv 3) pa_nil)))))))
    (pss_one (ps_ret (pv 1))))), ?_⟩)
  obtain ⟨a, xs, ns, rfl, hS, hN, hl, hlen, q⟩ := h
  have hsz : sizeLine = 16777216 := rfl
  have exn := hN.len
  refine ⟨by show 0 ≤ sizeLine; decide, fun l0 hl0 => ?_⟩
  refine ⟨_, rfl, a, xs, rfl, (same_new hl0).seq hS, ?_⟩
  refine for_it walk_enum (fun i σ Hc => ∃ (l : Addr) (b2 b3 : Option V), σ = [some (.ref a), some (.ref l), b2, b3] ∧ H l = none ∧ Hc l = some (.lst (vT (Vacola.joinDots (ns.take i)))) ∧ Same H Hc ∧ i ≤ xs.length)
    ⟨l0, none, none, rfl, hl0, upd_same, same_new hl0, Nat.zero_le _⟩ (fun i σ Hc _ ⟨_, _, _, _, _, _, k3, _⟩ => k3.seq hS) ?_ ?_
  · rintro i v σ Hc Hc' hi ⟨l, b2, b3, rfl, nl, hlc, k3, hle⟩ ⟨Tt, x, y, rfl, nT, rfl, ex, ey⟩
    cases ex
    obtain ⟨n', s', rfl, e1, e2⟩ := hN.at ey
    have sT := same_new (H := Hc) (o := .tup [.int ((i : Nat) : Int), .ref n']) nT
    refine ⟨Tt, _, rfl, SqT.of upd_same, rfl, _, _, rfl, _, _, rfl, rfl, ?_⟩
    have htk : ns.take (i + 1) = ns.take i ++ [s'] := take_more e1
    have hs' := hlen s' (List.mem_of_getElem? e1)
    have hjl := dots_len (ns.take i) fun n hn => hlen n (List.mem_of_mem_take hn)
    have htl : (ns.take i).length ≤ 100 := by rw [List.length_take]; omega
    -- what stands before the name
    refine ⟨fun σ' H2 => ∃ (l : Addr), σ' = [some (.ref a), some (.ref l), some (.int (i : Int)), some (.ref n')] ∧ H l = none ∧ H2 l = some (.lst (vT (if i = 0 then [] else Vacola.joinDots (ns.take i) ++ [46]))) ∧ Same H H2, ?_, ?_⟩
    · refine ⟨_, rfl, _, _, rfl, rfl, _, rfl, ifb (fun c => ?_) fun c => ?_⟩
      · have c' : (0 : Int) < i := of_decide_eq_true c
        refine ⟨_, rfl, ".", rfl, by decide +kernel, fun H2 l2 s2 n2 h2 => ?_⟩
        have ez : zT (Str.ofString ".") = [46] := by decide +kernel
        rw [ez] at h2
        refine ⟨l, l2, _, _, rfl, rfl, s2 _ _ (sT _ _ hlc), h2, ?_, fun p hp => ?_⟩
        · rw [List.length_map, List.length_map]
          simp only [List.length_cons, List.length_nil]
          omega
        · have s3 := same_new (H := H2) (o := .lst (vT (Vacola.joinDots (ns.take i)) ++ vT [46])) hp
          have kk : Same H H2 := (k3.trans sT).trans s2
          refine ⟨p, rfl, Same.fresh kk hp, ?_, kk.trans s3⟩
          rw [upd_same, if_neg (by omega), vT_app]
      · have c' : ¬ (0 : Int) < i := of_decide_eq_false c
        have i0 : i = 0 := by omega
        refine ⟨l, rfl, nl, ?_, k3.trans sT⟩
        rw [if_pos i0, sT _ _ hlc, i0]
        rfl
    · rintro σ' H2 ⟨l, rfl, nl, hl2, k4⟩
      have htup := k4 _ _ e2
      refine ⟨_, rfl, _, rfl, n', _, rfl, .inr (SqT.of htup), fun l3 hl3 => ?_⟩
      have s3 := same_new (H := H2) (o := .lst (vT s')) hl3
      refine ⟨l, l3, _, _, rfl, rfl, s3 _ _ hl2, upd_same, ?_, fun p hp => ?_⟩
      · rw [List.length_map, List.length_map]
        split
        · simp only [List.length_nil]; omega
        · rw [List.length_append]
          simp only [List.length_cons, List.length_nil]
          omega
      · have s4 := same_new (H := upd H2 l3 (.lst (vT s'))) (o := .lst (vT (if i = 0 then [] else Vacola.joinDots (ns.take i) ++ [46]) ++ vT s')) hp
        refine ⟨p, _, _, rfl, Same.fresh (k4.trans s3) hp, ?_, (k4.trans s3).trans s4, by omega⟩
        rw [upd_same, htk, dots_snoc, ← vT_app]
        congr 3
        by_cases i0 : i = 0
        · rw [if_pos i0, i0, if_pos (by simp)]
          rfl
        · have : ns.take i ≠ [] := by
            intro z
            have := congrArg List.length z
            rw [List.length_take] at this
            simp only [List.length_nil] at this
            omega
          rw [if_neg i0, if_neg this]
          simp
  · rintro σ Hc ⟨l, b2, b3, rfl, nl, hlc, k3, _⟩
    have e : ns.take xs.length = ns := by
      rw [exn]
      exact List.take_of_length_le (Nat.le_refl _)
    rw [e] at hlc
    exact ⟨_, rfl, q Hc l k3 nl hlc⟩
/-! ### is_open -/
/-- whether two signs stand side by side -/
def side (x y : Nat) : List Nat → Bool
  | a :: b :: r => (a == x && b == y) || side x y (b :: r)
  | _ => false
def spOpen (K : PySem.W.Frag) : Sp := fun vs H Q _ => ∃ (a : Addr) (t : List Nat), vs = [.ref a] ∧ SqL K H a (vT t) ∧ t.length ≤ 1000000 ∧ ∀ H', Same H H' → Q (.bl (side 123 125 t)) H'
theorem side_iff (x y : Nat) : ∀ t : List Nat, side x y t = true ↔ ∃ j : Nat, t[j]? = some x ∧ t[j + 1]? = some y
  | [] => by
    constructor
    · intro h; cases h
    · rintro ⟨j, h, _⟩; simp at h
  | [a] => by
    constructor
    · intro h; cases h
    · rintro ⟨j, _, h⟩; simp at h
  | a :: b :: r => by
    have ih := side_iff x y (b :: r)
    show ((a == x && b == y) || side x y (b :: r)) = true ↔ _
    rw [Bool.or_eq_true, ih, Bool.and_eq_true, beq_iff_eq, beq_iff_eq]
    constructor
    · rintro (⟨rfl, rfl⟩ | ⟨j, h1, h2⟩)
      · exact ⟨0, rfl, rfl⟩
      · exact ⟨j + 1, h1, h2⟩
    · rintro ⟨j, h1, h2⟩
      cases j with
      | zero => exact .inl ⟨Option.some.inj h1, Option.some.inj h2⟩
      | succ j => exact .inr ⟨j, h1, h2⟩
abbrev openN : List Str := ["schema", "begin", "end", "one", "other"]
theorem sc_is_open : FnScope openN ["schema"] (defScope s_is_open) := ⟨rfl, rfl, rfl, by decide +kernel, rfl, by decide +kernel, by decide +kernel⟩
theorem ok_is_open (T : Txt K mg) : DefOk P w K mg base CX0 2 (He.ga K "is_open") ["schema"] (spOpen K) := by
  obtain ⟨fd, F⟩ := dT T defsB (.inr (.inl rfl)) 14 rfl
  refine ⟨fd, ?_, bind1 F fun _ _ _ _ _ _ _ => rfl, F.kp⟩
  have nd := sc_is_open.nd
  have mzip := T.free "zip" (by decide +kernel)
  refine F.ok sc_is_open (fun vs H Q E h => by obtain ⟨a, xs, rfl, _⟩ := h; rfl) (fun cdv A outer s H vs Q E hr h => ⟨_,
    (pss_cons (ps_asg (pcall (ok_bytes_of T) hr (T.glo "bytes_of" (by decide +kernel)) pass0 (pa_cons (pe_str) pa_nil)) (pg_unl rfl (pgs_cons (pg_name (i := 1) nd rfl (Or.inl rfl)) (pgs_cons (pg_name (i := 2) nd rfl (Or.inl rfl)) pgs_nil))))
    (pss_cons (ps_for PassesOwn.never rfl (pi_zip rfl mzip (pa_cons (pv 0) (pa_cons (pe_slice sl_list (pv 0) (po_some pe_int) po_none) pa_nil))) (pg_tup rfl (pgs_cons (pg_name (i := 3) nd rfl (Or.inl rfl)) (pgs_cons (pg_name (i := 4) nd rfl (Or.inl rfl)) pgs_nil)))
      (pss_one (ps_if (PW.pt (pw_and (pt_cmpR op_eq (pv 3) (pv 1) (nomark _)) (pw_and1 (pt_cmpR op_eq (pv 4) (pv 2) (nomark _))))) (pss_one (ps_ret pe_bl)) pss_nil)))
    (pss_one (ps_ret pe_bl)))), ?_⟩)
  obtain ⟨a, t, rfl, hS, hl, q⟩ := h
  have hsz : sizeLine = 16777216 := rfl
  have ez : zT (Str.ofString "{}") = [123, 125] := by decide +kernel
  refine ⟨"{}", rfl, by decide +kernel, fun H1 l1 s1 n1 h1 => ?_⟩
  rw [ez] at h1
  refine ⟨l1, _, rfl, SqL.of h1, rfl, _, _, rfl, _, _, rfl, rfl, ?_⟩
  have hS1 := s1.seq hS
  refine ⟨_, rfl, _, rfl, _, rfl, a, _, rfl, hS1, fun l2 hl2 => ?_⟩
  have e2 : cutV (vT t) (some 1) none = vT (t.drop 1) := by
    show cutV (vT t) (some ((1 : Nat) : Int)) none = _
    unfold cutV
    rw [HT.sIx_nat, HT.sIx_none, List.length_map, ← List.map_drop]
    rcases Nat.lt_or_ge t.length 1 with h | h
    · have : t = [] := List.length_eq_zero_iff.mp (by omega)
      subst this
      rfl
    · have : min 1 t.length = 1 := by omega
      rw [this]
      exact List.take_of_length_le (by rw [List.length_map, List.length_drop]; omega)
  have s2 := same_new (H := H1) (o := .lst (cutV (vT t) (some 1) none)) hl2
  have hn : min (vT t).length (cutV (vT t) (some 1) none).length = t.length - 1 := by
    rw [e2, List.length_map, List.length_map, List.length_drop]
    omega
  refine ⟨a, l2, _, _, rfl, s2.seq hS1, SqL.of upd_same, ?_⟩
  refine for_it (walk_zip hn.symm) (fun i σ Hc => ∃ (b3 b4 : Option V), σ = [some (.ref a), some (.int 123), some (.int 125), b3, b4] ∧ Same H Hc ∧ Same (upd H1 l2 (.lst (cutV (vT t) (some 1) none))) Hc ∧ ∀ j, j < i → ¬ (t[j]? = some 123 ∧ t[j + 1]? = some 125))
    ⟨none, none, rfl, s1.trans s2, Same.refl _, fun j h => by omega⟩ (fun i σ Hc _ ⟨_, _, _, k1, k2, _⟩ => ⟨k1.seq hS, k2.seq (SqL.of upd_same)⟩) ?_ ?_
  · rintro i v σ Hc Hc' hi ⟨b3, b4, rfl, k1, k2, hno⟩ ⟨Tt, x, y, rfl, nT, rfl, ex, ey⟩
    have sT := same_new (H := Hc) (o := .tup [x, y]) nT
    replace ey : (cutV (vT t) (some 1) none)[i]? = some y := ey
    replace ex : (vT t)[i]? = some x := ex
    rw [e2, List.getElem?_map, List.getElem?_drop] at ey
    rw [List.getElem?_map] at ex
    cases e3 : t[i]? with
    | none => rw [e3] at ex; cases ex
    | some c =>
      rw [e3] at ex
      cases ex
      rw [Nat.add_comm] at ey
      cases e4 : t[i + 1]? with
      | none => rw [e4] at ey; cases ey
      | some d =>
        rw [e4] at ey
        cases ey
        have go : ¬ (c = 123 ∧ d = 125) → ∃ b3 b4 : Option V, ([some (.ref a), some (.int 123), some (.int 125), some (.int (c : Int)), some (.int (d : Int))] : L2.St) = [some (.ref a), some (.int 123), some (.int 125), b3, b4] ∧ Same H (upd Hc Tt (.tup [.int (c : Int), .int (d : Int)])) ∧
            Same (upd H1 l2 (.lst (cutV (vT t) (some 1) none))) (upd Hc Tt (.tup [.int (c : Int), .int (d : Int)])) ∧ ∀ j, j < i + 1 → ¬ (t[j]? = some 123 ∧ t[j + 1]? = some 125) := fun hne => by
          refine ⟨_, _, rfl, k1.trans sT, k2.trans sT, fun j hj => ?_⟩
          by_cases z : j = i
          · rintro ⟨z1, z2⟩
            rw [z, e3] at z1
            rw [z, e4] at z2
            exact hne ⟨Option.some.inj z1, Option.some.inj z2⟩
          · exact hno j (by omega)
        refine ⟨Tt, _, rfl, SqT.of upd_same, rfl, _, _, rfl, _, _, rfl, rfl, ?_⟩
        refine ⟨_, rfl, _, rfl, rfl, _, rfl, ifb (fun z1 => ?_) fun z1 => ?_⟩
        · rw [dec_int, ← dib] at z1
          have z1' : (c : Int) = 123 := of_decide_eq_true z1
          refine ⟨_, rfl, _, rfl, rfl, _, rfl, ifb (fun z2 => ?_) fun z2 => ?_⟩
          · rw [dec_int, ← dib] at z2
            have z2' : (d : Int) = 125 := of_decide_eq_true z2
            refine qb (q _ (k1.trans sT)) ?_
            refine (side_iff 123 125 t).mpr ⟨i, ?_, ?_⟩
            · rw [e3]
              congr 1
              omega
            · rw [e4]
              congr 1
              omega
          · rw [dec_int, ← dib] at z2
            have z2' : ¬ (d : Int) = 125 := of_decide_eq_false z2
            exact go fun z => z2' (by omega)
        · rw [dec_int, ← dib] at z1
          have z1' : ¬ (c : Int) = 123 := of_decide_eq_false z1
          exact ifF rfl (go fun z => z1' (by omega))
  · rintro σ Hc ⟨b3, b4, rfl, k1, k2, hno⟩
    refine qb (q _ k1) ?_
    cases e : side 123 125 t with
    | false => rfl
    | true =>
      obtain ⟨j, h1, h2⟩ := (side_iff 123 125 t).mp e
      refine (hno j ?_ ⟨h1, h2⟩).elim
      have := (List.getElem?_eq_some_iff.mp h2).1
      omega
end SF
end -- S4

section -- S5
set_option Elab.async false
set_option linter.all false
set_option maxRecDepth 100000
set_option maxHeartbeats 8000000
/-! # S5: by_names -/
namespace SF
open PySem PySem.Spec PyProof.Rows L2
open Vacolo (Loose)
variable {P : Program} {w : World} {K : PySem.W.Frag} {mg : Str → Option Value} {base : Heap}
/-- the occurrences of a name -/
def occ (n : List Nat) (es : List (List Nat × List Loose)) : List Loose := (es.filter fun e => e.1 == n).flatMap (·.2)
theorem occ_app (n : List Nat) (a b : List (List Nat × List Loose)) : occ n (a ++ b) = occ n a ++ occ n b := by
  unfold occ
  rw [List.filter_append, List.flatMap_append]
theorem occ_one (n : List Nat) (e : List Nat × List Loose) : occ n [e] = if e.1 = n then e.2 else [] := by
  unfold occ
  by_cases h : e.1 = n
  · rw [if_pos h, List.filter_cons_of_pos (by simpa using h)]
    simp
  · rw [if_neg h, List.filter_cons_of_neg (by simpa using h)]
    rfl
theorem occ_out {n : List Nat} {es : List (List Nat × List Loose)} (h : n ∉ es.map Prod.fst) : occ n es = [] := by
  unfold occ
  have : (es.filter fun e => e.1 == n) = [] := List.filter_eq_nil_iff.mpr fun e he => by
    have : e.1 ≠ n := fun z => h (List.mem_map.mpr ⟨e, he, z⟩)
    simpa using this
  rw [this]
  rfl
/-- entries of one value -/
def entsOf : Loose → List (List Nat × List Loose)
  | .record fs => fs
  | .alt n v => [(n, [v])]
  | _ => []
abbrev ents (vs : List Loose) : List (List Nat × List Loose) := vs.flatMap entsOf
/-- how much stands in them -/
def many (es : List (List Nat × List Loose)) : Nat := (es.map fun e => e.2.length + 1).sum
theorem many_app (a b : List (List Nat × List Loose)) : many (a ++ b) = many a + many b := by
  unfold many
  rw [List.map_append, List.sum_append]
theorem many_len (es : List (List Nat × List Loose)) : es.length ≤ many es := by
  induction es with
  | nil => exact Nat.le_refl _
  | cons e es ih =>
    show es.length + 1 ≤ (e.2.length + 1) + many es
    omega
theorem occ_many (n : List Nat) (es : List (List Nat × List Loose)) : (occ n es).length ≤ many es := by
  induction es with
  | nil => exact Nat.le_refl _
  | cons e es ih =>
    have : occ n (e :: es) = occ n [e] ++ occ n es := occ_app n [e] es
    rw [this, List.length_append, occ_one]
    show _ ≤ (e.2.length + 1) + many es
    split
    · omega
    · simp only [List.length_nil]
      omega
theorem RLs.cat {H : Hp} : ∀ {xs ys : List V} {a b : List Loose}, RLs H xs a → RLs H ys b → RLs H (xs ++ ys) (a ++ b)
  | _, _, _, _, .nil, h => h
  | _, _, _, _, .cons x y, h => .cons x (RLs.cat y h)
/-- the dict at d groups es; what lies within its lists stood in H -/
structure Grp (H Hc : Hp) (d : Addr) (es : List (List Nat × List Loose)) : Prop where
  ex : ∃ (kvs : List (List L2.Key × V)) (ns : List (List Nat)), Hc d = some (.dT kvs) ∧ kvs.map (·.1) = ns.map nmK ∧ ns.Nodup ∧ (∀ n, n ∈ ns ↔ n ∈ es.map Prod.fst) ∧ kvs.length ≤ es.length ∧
    (∀ n ∈ ns, ∃ o xs, valV kvs (nmK n) = some (.ref o) ∧ H o = none ∧ Hc o = some (.lst xs) ∧ RLs H xs (occ n es)) ∧
    (∀ n m o, valV kvs (nmK n) = some (.ref o) → valV kvs (nmK m) = some (.ref o) → n = m)
theorem val_in {kvs : List (List L2.Key × V)} {ns : List (List Nat)} (hk : kvs.map (·.1) = ns.map nmK) {n : List Nat} {v : V} (h : valV kvs (nmK n) = some v) : n ∈ ns := by
  unfold valV at h
  obtain ⟨p, hp, _⟩ := Option.map_eq_some_iff.mp h
  have h1 := List.mem_of_find?_eq_some hp
  have h2 := List.find?_some hp
  have h3 : p.1 = nmK n := by simpa using h2
  have h4 : p.1 ∈ kvs.map (·.1) := List.mem_map.mpr ⟨p, h1, rfl⟩
  rw [hk, h3] at h4
  obtain ⟨m, hm, e⟩ := List.mem_map.mp h4
  exact nmK_inj e ▸ hm
theorem val_out {kvs : List (List L2.Key × V)} {ns : List (List Nat)} (hk : kvs.map (·.1) = ns.map nmK) {n : List Nat} (h : valV kvs (nmK n) = none) : n ∉ ns := by
  intro hn
  have h4 : nmK n ∈ kvs.map (·.1) := by
    rw [hk]
    exact List.mem_map.mpr ⟨n, hn, rfl⟩
  obtain ⟨p, hp, e⟩ := List.mem_map.mp h4
  unfold valV at h
  have := (List.find?_eq_none.mp (Option.map_eq_none_iff.mp h)) p hp
  simp [e] at this
/-- present: its list grows -/
theorem Grp.grow {H Hc : Hp} {d : Addr} {es : List (List Nat × List Loose)} {n : List Nat} {os : List Loose} {zs : List V} {kvs : List (List L2.Key × V)} {o : Addr} {xs : List V} (g : Grp H Hc d es) (hd : Hc d = some (.dT kvs)) (hv : valV kvs (nmK n) = some (.ref o)) (ho : Hc o = some (.lst xs)) (hz : RLs H zs os) :
    Grp H (upd Hc o (.lst (xs ++ zs))) d (es ++ [(n, os)]) := by
  obtain ⟨kvs', ns, h1, h2, h3, h4, h5, h6, h7⟩ := g.ex
  rw [hd] at h1
  cases h1
  have hn := val_in h2 hv
  refine ⟨kvs, ns, ?_, h2, h3, fun m => ?_, by simp; omega, fun m hm => ?_, h7⟩
  · rw [upd_ne (ne_of hd ho (by intro z; cases z))]
    exact hd
  · rw [h4, List.map_append, List.mem_append]
    constructor
    · exact .inl
    · rintro (z | z)
      · exact z
      · rw [List.mem_singleton.mp z]
        exact (h4 n).mp hn
  · obtain ⟨o', xs', e1, e2, e3, e4⟩ := h6 m hm
    rw [occ_app, occ_one]
    by_cases z : m = n
    · subst z
      rw [hv] at e1
      cases e1
      rw [ho] at e3
      cases e3
      exact ⟨o, _, hv, e2, upd_same, by rw [if_pos rfl]; exact e4.cat hz⟩
    · have ne : o' ≠ o := fun w => z (h7 m n o' e1 (by rw [w]; exact hv))
      refine ⟨o', xs', e1, e2, (upd_ne ne).trans e3, ?_⟩
      rw [if_neg (Ne.symm z), List.append_nil]
      exact e4
/-- absent: a new list -/
theorem Grp.lay {H Hc : Hp} {d : Addr} {es : List (List Nat × List Loose)} {n : List Nat} {os : List Loose} {zs : List V} {kvs : List (List L2.Key × V)} {e : Addr} (g : Grp H Hc d es) (hd : Hc d = some (.dT kvs)) (hv : valV kvs (nmK n) = none) (he : Hc e = none) (hH : H e = none) (hz : RLs H zs os) :
    Grp H (upd (upd (upd Hc e (.lst [])) d (.dT (putK kvs (nmK n) (.ref e)))) e (.lst zs)) d (es ++ [(n, os)]) := by
  obtain ⟨kvs', ns, h1, h2, h3, h4, h5, h6, h7⟩ := g.ex
  rw [hd] at h1
  cases h1
  have hn := val_out h2 hv
  have ned : d ≠ e := ne_of_none hd he
  have noe : ∀ m o, valV kvs (nmK m) = some (.ref o) → o ≠ e := fun m o hm z => by
    obtain ⟨o', xs', e1, e2, e3, e4⟩ := h6 m (val_in h2 hm)
    rw [hm] at e1
    cases e1
    rw [z, he] at e3
    cases e3
  refine ⟨putK kvs (nmK n) (.ref e), ns ++ [n], ?_, ?_, ?_, fun m => ?_, ?_, fun m hm => ?_, fun m k o hm hk => ?_⟩
  · rw [upd_ne ned, upd_same]
  · rw [putK_new _ hv, List.map_append, List.map_append, h2]
    rfl
  · refine List.nodup_append.mpr ⟨h3, by simp, fun a ha b hb => ?_⟩
    rw [List.mem_singleton.mp hb]
    intro z
    exact hn (z ▸ ha)
  · rw [List.mem_append, List.map_append, List.mem_append, h4]
    rfl
  · rw [putK_new _ hv, List.length_append, List.length_append]
    simp only [List.length_cons, List.length_nil]
    omega
  · rw [occ_app, occ_one]
    by_cases z : m = n
    · subst z
      refine ⟨e, zs, ?_, hH, upd_same, ?_⟩
      · rw [valV_put, if_pos rfl]
      · rw [if_pos rfl, occ_out fun w => hn ((h4 m).mpr w)]
        exact hz
    · obtain ⟨o', xs', e1, e2, e3, e4⟩ := h6 m ((List.mem_append.mp hm).resolve_right fun w => z (List.mem_singleton.mp w))
      have ne := noe m o' e1
      have ne2 : o' ≠ d := ne_of e3 hd (by intro z; cases z)
      refine ⟨o', xs', ?_, e2, ?_, ?_⟩
      · rw [valV_put, if_neg fun w => z (nmK_inj w)]
        exact e1
      · rw [upd_ne ne, upd_ne ne2, upd_ne ne]
        exact e3
      · rw [if_neg (Ne.symm z), List.append_nil]
        exact e4
  · rw [valV_put] at hm hk
    by_cases z1 : nmK m = nmK n
    · by_cases z2 : nmK k = nmK n
      · rw [nmK_inj z1, nmK_inj z2]
      · rw [if_pos z1] at hm
        rw [if_neg z2] at hk
        cases hm
        exact (noe k e hk rfl).elim
    · by_cases z2 : nmK k = nmK n
      · rw [if_neg z1] at hm
        rw [if_pos z2] at hk
        cases hk
        exact (noe m e hm rfl).elim
      · rw [if_neg z1] at hm
        rw [if_neg z2] at hk
        exact h7 m k o hm hk
theorem Grp.keep {H Hc Hd : Hp} {d : Addr} {es : List (List Nat × List Loose)} (g : Grp H Hc d es) (s : Same Hc Hd) : Grp H Hd d es := by
  obtain ⟨kvs, ns, h1, h2, h3, h4, h5, h6, h7⟩ := g.ex
  exact ⟨kvs, ns, s _ _ h1, h2, h3, h4, h5, fun n hn => by obtain ⟨o, xs, e1, e2, e3, e4⟩ := h6 n hn; exact ⟨o, xs, e1, e2, s _ _ e3, e4⟩, h7⟩

theorem Grp.none_ {H Hc : Hp} {d : Addr} (h : Hc d = some (.dT [])) : Grp H Hc d [] := ⟨[], [], h, rfl, List.nodup_nil, fun n => by simp, Nat.le_refl _, fun n hn => absurd hn (by simp), fun n m o h => by cases h⟩
def isG : Loose → Bool
  | .record _ => true
  | .alt _ _ => true
  | _ => false
theorem RF.occAt {H : Hp} : ∀ {xs : List V} {fs : List (List Nat × List Loose)} {i : Nat} {f n o : Addr} {s : List Nat} {vs : List Loose}, RF H xs fs → xs[i]? = some (.ref f) → fs[i]? = some (s, vs) → H f = some (.tup [.ref n, .ref o]) → ∃ ys, H o = some (.lst ys) ∧ RLs H ys vs
  | _, _, _, _, _, _, _, _, .nil, h, _, _ => by simp at h
  | _, _, 0, _, _, _, _, _, .cons a b c d e, h, h2, h3 => by
    have e1 := V.ref.inj (Option.some.inj h)
    have e2 := Option.some.inj h2
    cases e2
    rw [e1, h3] at a
    cases a
    exact ⟨_, c, d⟩
  | _, _, i + 1, _, _, _, _, _, .cons a b c d e, h, h2, h3 => RF.occAt e (i := i) h h2 h3
/-- the groups of values, by name -/
abbrev byN (vs : List Loose) : List (List Nat × List Loose) := (Vacolo.names ((ents vs).map Prod.fst)).map fun n => (n, occ n (ents vs))
def spByN (K : PySem.W.Frag) : Sp := fun vs H Q _ => ∃ (a : Addr) (xs : List V) (vals : List Loose), vs = [.ref a] ∧ SqL K H a xs ∧ RLs H xs vals ∧ (∀ v ∈ vals, isG v = true) ∧ (∀ e ∈ ents vals, e.1 ≠ []) ∧ many (ents vals) ≤ 1000000 ∧
  ∀ H' l ys, Same H H' → H l = none → H' l = some (.lst ys) → RF H' ys (byN vals) → Q (.ref l) H'
abbrev bynN : List Str := ["values", "some", "kind", "what", "name", "occurrences"]
theorem sc_by_names : FnScope bynN ["values"] (defScope s_by_names) := ⟨rfl, rfl, rfl, by decide +kernel, rfl, by decide +kernel, by decide +kernel⟩
theorem Room.un1 {k : Nat} {A : Around} (r : Room k A) : A.units + 1 < cLine := by have := r.un; omega
theorem nm_key {H : Hp} {n : Addr} {s : List Nat} (h : H n = some (.tup (vT s))) : H n = some (.tup ((nmK s).map kV)) := by
  rw [nmK_kV]
  exact h
theorem ok_by_names (T : Txt K mg) : DefOk P w K mg base CX0 1 (He.ga K "by_names") ["values"] (spByN K) := by
  obtain ⟨fd, F⟩ := dT T defsB (.inr (.inl rfl)) 2 rfl
  refine ⟨fd, ?_, bind1 F fun _ _ _ _ _ _ _ => rfl, F.kp⟩
  have nd := sc_by_names.nd
  have msorted := T.free "sorted" (by decide +kernel)
  refine F.ok sc_by_names (fun vs H Q E h => by obtain ⟨a, xs, rs, rfl, _⟩ := h; rfl) (fun cdv A outer s H vs Q E hr h => ⟨_,
    (pss_cons (ps_set (i := 1) nd rfl (.inr rfl) pe_dnewT)
    (pss_cons (ps_for PassesOwn.never rfl (pi_list (pv 0)) (pg_tup rfl (pgs_cons (pg_name (i := 2) nd rfl (Or.inl rfl)) (pgs_cons (pg_name (i := 3) nd rfl (Or.inl rfl)) pgs_nil)))
      (pss_one (ps_if (pt_cmpR op_eq (pv 2) (pgi (T.int ("CHOICE", 3) (by decide +kernel))) (nomark _))
        (pss_one (ps_expr (pe_bm PySem.F.plainAttrs_list PySem.F.slot_list_append PySem.F.type_list_append mt_append (pe_bm PySem.F.plainAttrs_dict PySem.F.slot_dict_setdefault PySem.F.type_dict_setdefault (mt_setT (Room.un1 hr)) (pv 1) (pa_cons (pe_ix ix_tup (pv 3) pe_int (fun _ _ => rfl)) (pa_cons (pe_lst pa_nil) pa_nil))) (pa_cons (pe_ix ix_tup (pv 3) pe_int (fun _ _ => rfl)) pa_nil))))
        (pss_one (ps_for PassesOwn.never rfl (pi_list (pv 3)) (pg_tup rfl (pgs_cons (pg_name (i := 4) nd rfl (Or.inl rfl)) (pgs_cons (pg_name (i := 5) nd rfl (Or.inl rfl)) pgs_nil)))
          (pss_one (ps_expr (pe_bm PySem.F.plainAttrs_list PySem.F.slot_list_extend PySem.F.type_list_extend mt_extend (pe_bm PySem.F.plainAttrs_dict PySem.F.slot_dict_setdefault PySem.F.type_dict_setdefault (mt_setT (Room.un1 hr)) (pv 1) (pa_cons (pv 4) (pa_cons (pe_lst pa_nil) pa_nil))) (pa_cons (pv 5) pa_nil)))))))))
    (pss_one (ps_ret (pe_lc (own := [("name", 4)]) (g := gName 4) (tt := tYes) rfl nd (pi_list (pe_callB (call_sortT rfl (Room.un65 hr)) rfl msorted (by decide +kernel) (pa_cons (pv 1) pa_nil))) (blkOk_by (N := bynN) (sc := defScope s_by_names) (by decide +kernel))
      (fun _ _ _ _ _ => pg_name (i := 4) nd rfl (Or.inl rfl)) (fun _ _ _ _ _ => pts_nil) (fun _ _ _ _ _ => pe_tup (pa_cons (pv 4) (pa_cons (pe_dget (Room.un1 hr) (pv 1) (pv 4) (fun _ _ => rfl)) pa_nil)))))))), ?_⟩)
  obtain ⟨a, xs, vals, rfl, hS, hR, hG, hne, hm, q⟩ := h
  have hsz : sizeLine = 16777216 := rfl
  -- setdefault: the list of a name
  have setd : ∀ (d n e : Addr) (nm : List Nat) (es : List (List Nat × List Loose)) (Hc : Hp) (C : VK), H d = none → Same H Hc → Grp H Hc d es → many es ≤ 1000000 → Hc n = some (.tup (vT nm)) → Hc e = none →
      (∀ (o : Addr) (xs0 : List V) (H2 : Hp), H2 o = some (.lst xs0) → xs0.length ≤ 1000000 → Same H H2 → H o = none → (∀ (zs : List V) (os : List Loose), RLs H zs os → Grp H (upd H2 o (.lst (xs0 ++ zs))) d (es ++ [(nm, os)])) → C (.ref o) H2) →
      rSetT (.ref d) [.ref n, .ref e] (upd Hc e (.lst [])) C := by
    intro d n e nm es Hc C hdn k g hmany hn he hC
    obtain ⟨kvs, ns, h1, h2, h3, h4, h5, h6, h7⟩ := g.ex
    have s1 := same_new (H := Hc) (o := .lst []) he
    have hlen := many_len es
    have hHe := Same.fresh k he
    refine ⟨d, n, kvs, nmK nm, .ref e, rfl, rfl, s1 _ _ h1, nm_key (s1 _ _ hn), by omega, fun v hv => ?_, fun hv => ?_⟩
    · obtain ⟨o, xs0, e1, e2, e3, e4⟩ := h6 nm (val_in h2 hv)
      rw [hv] at e1
      cases e1
      have l1 := e4.len
      have l2 := occ_many nm es
      exact hC o xs0 _ (s1 _ _ e3) (by omega) (k.trans s1) e2 fun zs os hz => (g.keep s1).grow (s1 _ _ h1) hv (s1 _ _ e3) hz
    · have ned : d ≠ e := ne_of_none h1 he
      refine hC e [] _ ?_ (by simp) (fun c o w => ?_) hHe fun zs os hz => ?_
      · rw [upd_ne (Ne.symm ned), upd_same]
      · have z1 : c ≠ d := ne_of_none w hdn
        rw [upd_ne z1]
        exact s1 _ _ (k _ _ w)
      · exact g.lay h1 hv he hHe hz
  have few : ∀ i, many (ents (vals.take i)) ≤ 1000000 := fun i => by
    have e : ents vals = ents (vals.take i) ++ ents (vals.drop i) := by
      unfold ents
      rw [← List.flatMap_append, List.take_append_drop]
    have := many_app (ents (vals.take i)) (ents (vals.drop i))
    rw [← e] at this
    omega
  refine fun d hd => ?_
  refine ⟨_, rfl, a, rfl, ⟨_, (same_new hd).seq hS⟩, for_list (K := K) (a := a) (xs := xs) (fun i σ Hc => ∃ (b2 b3 b4 b5 : Option V), σ = [some (.ref a), some (.ref d), b2, b3, b4, b5] ∧ Grp H Hc d (ents (vals.take i)) ∧ Same H Hc)
    ⟨none, none, none, none, rfl, Grp.none_ upd_same, same_new hd⟩ (fun i σ Hc _ ⟨_, _, _, _, _, _, k3⟩ => k3.seq hS) ?_ ?_⟩
  · rintro i x σ Hc hi ⟨b2, b3, b4, b5, rfl, g, k⟩
    obtain ⟨v, hv, rv⟩ := hR.at hi
    have htk : vals.take (i + 1) = vals.take i ++ [v] := take_more hv
    have hes : ents (vals.take (i + 1)) = ents (vals.take i) ++ entsOf v := by
      rw [htk]
      unfold ents
      rw [List.flatMap_append]
      simp
    have hfew := few (i + 1)
    rw [hes, many_app] at hfew
    have hgv := hG v (List.mem_of_getElem? hv)
    cases rv with
    | num _ => cases hgv
    | str _ _ => cases hgv
    | @record r b fxs fs g1 g2 g3 =>
      refine ⟨r, _, rfl, SqT.of (k _ _ g1), rfl, _, _, rfl, _, _, rfl, rfl, ?_⟩
      refine ⟨_, rfl, rfl, _, rfl, ifF (by decide) ?_⟩
      refine ⟨_, rfl, b, rfl, ⟨_, SqL.of (k _ _ g2)⟩, for_list (K := K) (a := b) (xs := fxs) (fun j σ Hd => ∃ (b4 b5 : Option V), σ = [some (.ref a), some (.ref d), some (.int 2), some (.ref b), b4, b5] ∧ Grp H Hd d (ents (vals.take i) ++ fs.take j) ∧ Same H Hd)
        ⟨b4, b5, rfl, by rw [List.take_zero, List.append_nil]; exact g, k⟩ (fun j σ Hd _ ⟨_, _, _, _, k4⟩ => SqL.of (k4 _ _ g2)) ?_ ?_⟩
      · rintro j y σ Hd hj ⟨b4, b5, rfl, gd, kd⟩
        obtain ⟨f', n', o', s', vs', rfl, w1, w2, w3⟩ := g3.at hj
        obtain ⟨ys', w4, w5⟩ := g3.occAt hj w1 w2
        have hfj : fs.take (j + 1) = fs.take j ++ [(s', vs')] := take_more w1
        have hmj : many (ents (vals.take i) ++ fs.take j) ≤ 1000000 := by
          rw [many_app]
          have e : many fs = many (fs.take j) + many (fs.drop j) := by rw [← many_app, List.take_append_drop]
          have : many (entsOf (.record fs)) = many fs := rfl
          omega
        have hvs : vs'.length ≤ 1000000 := by
          have e : many fs = many (fs.take (j + 1)) + many (fs.drop (j + 1)) := by rw [← many_app, List.take_append_drop]
          rw [hfj, many_app] at e
          have e1 : many [(s', vs')] = vs'.length + 1 := rfl
          have : many (entsOf (.record fs)) = many fs := rfl
          omega
        refine ⟨f', _, rfl, SqT.of (kd _ _ w2), rfl, _, _, rfl, _, _, rfl, rfl, ?_⟩
        obtain ⟨kvs, ns, h1, _⟩ := gd.ex
        refine ⟨_, rfl, .inr (.inr (.inl ⟨rfl, .inr ⟨_, h1⟩⟩)), _, rfl, (by show 0 ≤ sizeLine; decide), fun e he => ?_⟩
        delta tNil
        dsimp only
        refine setd d n' e s' _ Hd _ hd kd gd hmj (kd _ _ w3) he fun o xs0 H2 ho hx0 k2 ho0 gr => ?_
        refine ⟨.inl ⟨rfl, _, SqL.of ho⟩, _, rfl, o, o', xs0, ys', rfl, rfl, ho, k2 _ _ w4, ?_, ?_⟩
        · have := w5.len
          omega
        · refine ⟨_, _, rfl, ?_, fun c u w => ?_⟩
          · rw [hfj, ← List.append_assoc]
            exact gr ys' vs' w5
          · rw [upd_ne (ne_of_none w ho0)]
            exact k2 _ _ w
      · rintro σ Hd ⟨b4, b5, rfl, gd, kd⟩
        refine ⟨_, _, _, _, rfl, ?_, kd⟩
        rw [hes]
        have : fs.take fxs.length = fs := by
          rw [g3.len]
          exact List.take_of_length_le (Nat.le_refl _)
        rw [this] at gd
        exact gd
    | @alt r b n' x0 s' v0 g1 g2 g3 g4 =>
      refine ⟨r, _, rfl, SqT.of (k _ _ g1), rfl, _, _, rfl, _, _, rfl, rfl, ?_⟩
      refine ⟨_, rfl, rfl, _, rfl, ifT (by decide) ?_⟩
      obtain ⟨kvs, ns, h1, _⟩ := g.ex
      refine ⟨_, rfl, .inr (.inr (.inl ⟨rfl, .inr ⟨_, h1⟩⟩)), _, rfl, b, _, 0, .ref n', rfl, rfl, SqT.of (k _ _ g2), atI_nat (j := 0) rfl, (by show 0 ≤ sizeLine; decide), fun e he => ?_⟩
      delta tNil
      dsimp only
      refine setd d n' e s' _ Hc _ hd k g (by omega) (k _ _ g3) he fun o xs0 H2 ho hx0 k2 ho0 gr => ?_
      refine ⟨.inl ⟨rfl, _, SqL.of ho⟩, _, rfl, b, _, 1, x0, rfl, rfl, SqT.of (k2 _ _ g2), atI_nat (j := 1) rfl, o, xs0, x0, rfl, rfl, ho, by omega, ?_⟩
      refine ⟨_, _, _, _, rfl, ?_, fun c u w => ?_⟩
      · rw [hes]
        exact gr [x0] [v0] (.cons g4 .nil)
      · rw [upd_ne (ne_of_none w ho0)]
        exact k2 _ _ w
  · rintro σ Hc ⟨b2, b3, b4, b5, rfl, g, k⟩
    have hall : vals.take xs.length = vals := by
      rw [hR.len]
      exact List.take_of_length_le (Nat.le_refl _)
    rw [hall] at g
    obtain ⟨kvs, ns, h1, h2, h3, h4, h5, h6, h7⟩ := g.ex
    refine ⟨_, rfl, d, kvs, ns, rfl, h1, h2, fun s hs => ?_, fun p ps hp hN => ?_⟩
    · obtain ⟨e, he, hes⟩ := List.mem_map.mp ((h4 s).mp hs)
      exact hes ▸ hne e he
    · rw [sortN_names h3 h4] at hN
      have sp := same_new (H := Hc) (o := .lst ps) hp
      have kp := k.trans sp
      generalize hL : Vacolo.names ((ents vals).map Prod.fst) = L at *
      have hmem : ∀ s ∈ L, s ∈ ns := fun s hs => (h4 s).mpr (by rw [← hL] at hs; exact (names_mem _ s).mp hs)
      have hLl : ps.length = L.length := hN.len
      have hLm : L.length ≤ 1000000 := by
        have e1 := List.Nodup.length_le_of_subset (l₁ := L) (l₂ := ns) ?_ fun s hs => hmem s hs
        · have e2 := congrArg List.length h2
          rw [List.length_map, List.length_map] at e2
          have := many_len (ents vals)
          omega
        · rw [← hL]
          exact (names_rise _).imp fun {x y} w z => by rw [z, tl_irrefl] at w; cases w
      refine ⟨p, rfl, ⟨_, SqL.of upd_same⟩, fun D hD => ?_⟩
      refine lc_list (K := K) (a := p) (xs := ps) (fun i Hd => ∃ acc, Hd D = some (.lst acc) ∧ RF (del Hd D) acc ((L.take i).map fun n => (n, occ n (ents vals))) ∧ Same (upd Hc p (.lst ps)) Hd ∧ i ≤ ps.length)
        ⟨[], upd_same, .nil, same_new hD, Nat.zero_le _⟩ (fun i Hd _ ⟨_, _, _, k4, _⟩ => SqL.of (k4 _ _ upd_same)) ?_ ?_
      · rintro i y Hd hy ⟨acc, q1, q2, k4, hle⟩
        have hi := (List.getElem?_eq_some_iff.mp hy).1
        obtain ⟨n', s', rfl, w1, w2⟩ := hN.at hy
        obtain ⟨o, xs0, e1, e2, e3, e4⟩ := h6 s' (hmem s' (List.mem_of_getElem? w1))
        have kD : Same Hc Hd := sp.trans k4
        have nD : ∀ c u, Hc c = some u → c ≠ D := fun c u w z => by
          have := sp _ _ w
          rw [z, hD] at this
          cases this
        have dg : DGet Hd d (.ref n') (some (.ref o)) := by
          rw [← e1]
          exact DGet.t (kD _ _ h1) (nm_key (kD _ _ w2))
        refine ⟨rfl, ⟨_, rfl, _, rfl, _, rfl, d, _, rfl, dg, (by show 2 ≤ sizeLine; decide), fun t ht => ?_⟩⟩
        have st := same_new (H := Hd) (o := .tup [.ref n', .ref o]) ht
        have ntD : t ≠ D := fun z => by
          rw [z, q1] at ht
          cases ht
        refine ⟨acc, st _ _ q1, ?_, acc ++ [.ref t], upd_same, ?_, fun c u w => ?_, by omega⟩
        · have := q2.len
          rw [List.length_map, List.length_take] at this
          omega
        · rw [take_more w1, List.map_append]
          have ex : ∀ c u, Hc c = some u → del (upd (upd Hd t (.tup [.ref n', .ref o])) D (.lst (acc ++ [.ref t]))) D c = some u := fun c u w => by
            have z := nD c u w
            rw [del_ne z, upd_ne z]
            exact st _ _ (kD _ _ w)
          refine (q2.mono fun c u w sq => ?_).app (.cons (n := n') (o := o) ?_ (ex _ _ w2) (ex _ _ e3) (e4.mono fun c u w _ => ex _ _ (k _ _ w)) .nil)
          · by_cases z : c = D
            · rw [z, del_same] at w
              cases w
            · rw [del_ne z] at w ⊢
              rw [upd_ne z]
              exact st _ _ w
          · rw [del_ne ntD, upd_ne ntD]
            exact upd_same
        · have z : c ≠ D := fun z => by
            rw [z, hD] at w
            cases w
          rw [upd_ne z]
          exact st _ _ (k4 _ _ w)
      · rintro Hd ⟨acc, q1, q2, k4, _⟩
        have : L.take ps.length = L := by
          rw [hLl]
          exact List.take_of_length_le (Nat.le_refl _)
        rw [this] at q2
        have kpc : Same H (upd Hc p (.lst ps)) := kp
        refine q Hd D acc (kpc.trans k4) (Same.fresh kpc hD) q1 ?_
        show RF Hd acc ((Vacolo.names ((ents vals).map Prod.fst)).map fun n => (n, occ n (ents vals)))
        rw [hL]
        refine q2.mono fun c u w _ => ?_
        by_cases z : c = D
        · rw [z, del_same] at w
          cases w
        · rw [del_ne z] at w
          exact w
end SF
end -- S5

section -- S6
set_option Elab.async false
set_option linter.all false
set_option maxRecDepth 100000
set_option maxHeartbeats 8000000
/-! # S6: mode_of -/
namespace SF
open PySem PySem.Spec PyProof.Rows L2
open Vacolo (Loose)
variable {P : Program} {w : World} {K : PySem.W.Frag} {mg : Str → Option Value} {base : Heap}
def rEqN : R2 := fun x y H Q => ∃ (n m : Addr) (s t : List Nat), x = .ref n ∧ y = .ref m ∧ H n = some (.tup (vT s)) ∧ H m = some (.tup (vT t)) ∧ Q (.bl (s == t)) H
theorem op_eqN {X : Cx} (hu : X.A.units + 64 < cLine) : OpR X (compareOp .Eq) rEqN := by
  intro pins s σ H x y v u Q I rx ry h
  obtain ⟨n, m, a, b, rfl, rfl, hn, hm, q⟩ := h
  refine op_eqD hu pins s σ H _ _ v u Q I rx ry ⟨nmD a, nmD b, dp_name hn, dp_name hm, nmD_shaped a, nmD_shaped b, ?_⟩
  rw [nmD_eqv]
  exact q
/-- how often a name's occurrences stand in a record -/
def cnt (n : List Nat) (fs : List (List Nat × List Loose)) : Int := ((fs.filter fun e => e.1 == n).map fun e => (e.2.length : Int)).sum
theorem cnt_occ (n : List Nat) (fs : List (List Nat × List Loose)) : cnt n fs = ((occ n fs).length : Int) := by
  unfold cnt occ
  induction fs.filter fun e => e.1 == n with
  | nil => rfl
  | cons e r ih =>
    rw [List.map_cons, List.sum_cons, ih, List.flatMap_cons, List.length_append]
    omega
def modeS (cs : List Int) : Str := if cs.all (fun k => k == 1) then "!" else if cs.all (fun k => decide (k ≤ 1)) then "?" else "*"
def spMode (K : PySem.W.Frag) : Sp := fun vs H Q _ => ∃ (n a : Addr) (nm : List Nat) (xs : List V) (rs : List (List (List Nat × List Loose))), vs = [.ref n, .ref a] ∧ H n = some (.tup (vT nm)) ∧ SqL K H a xs ∧ RLs H xs (rs.map Loose.record) ∧ rs ≠ [] ∧ xs.length ≤ 1000000 ∧ (∀ fs ∈ rs, fs.length ≤ 1000000) ∧
  ∀ H', Same H H' → Q (.str (modeS (rs.map (cnt nm)))) H'
abbrev modeN : List Str := ["name", "values", "many", "kind", "fields", "one", "some"]
theorem sc_mode_of : FnScope modeN ["name", "values"] (defScope s_mode_of) := ⟨rfl, rfl, rfl, by decide +kernel, rfl, by decide +kernel, by decide +kernel⟩
theorem ok_mode_of (T : Txt K mg) : DefOk P w K mg base CX0 1 (He.ga K "mode_of") ["name", "values"] (spMode K) := by
  obtain ⟨fd, F⟩ := dT T defsB (.inr (.inl rfl)) 10 rfl
  refine ⟨fd, ?_, bind2 F fun _ _ _ _ _ _ _ _ => rfl, F.kp⟩
  have nd := sc_mode_of.nd
  have mlen := T.free "len" (by decide +kernel)
  have msum := T.free "sum" (by decide +kernel)
  have mmin := T.free "min" (by decide +kernel)
  have mmax := T.free "max" (by decide +kernel)
  refine F.ok sc_mode_of (fun vs H Q E h => by obtain ⟨n, a, nm, xs, rs, rfl, _⟩ := h; rfl) (fun cdv A outer s H vs Q E hr h => ⟨_,
    (pss_cons (ps_set (i := 2) nd rfl (.inl rfl) (pe_lst pa_nil))
    (pss_cons (ps_for PassesOwn.never rfl (pi_list (pv 1)) (pg_tup rfl (pgs_cons (pg_name (i := 3) nd rfl (Or.inl rfl)) (pgs_cons (pg_name (i := 4) nd rfl (Or.inl rfl)) pgs_nil)))
      (pss_one (ps_expr (pe_bm PySem.F.plainAttrs_list PySem.F.slot_list_append PySem.F.type_list_append mt_append (pv 2) (pa_cons (pe_callB (cr_sum rfl) rfl msum (by decide +kernel) (pa_cons (pe_lc (own := [("one", 5), ("some", 6)]) (g := gTup K 2 (gCons (gName 5) (gCons (gName 6) gNil))) rfl nd (pi_list (pv 4)) (blkOk_by (N := modeN) (sc := defScope s_mode_of) (by decide +kernel))
            (fun _ _ _ _ _ => pg_tup rfl (pgs_cons (pg_name (i := 5) nd rfl (Or.inl rfl)) (pgs_cons (pg_name (i := 6) nd rfl (Or.inl rfl)) pgs_nil)))
            (fun _ _ _ _ _ => pts_one (pt_cmpR (op_eqN hr.units) (pv 5) (pv 0) (nomark _))) (fun _ _ _ _ _ => pe_callB (r := fun xs H Q => ∃ a ys, xs = [V.ref a] ∧ (SqL K H a ys ∨ SqT K H a ys) ∧ Q (.int ys.length) H) call_len_seq rfl mlen PySem.boot_len (pa_cons (pv 6) pa_nil))) pa_nil)) pa_nil)))))
    (pss_cons (ps_if (pt_cmpR op_gt (pe_callB (cr_max rfl) rfl mmax (by decide +kernel) (pa_cons (pv 2) pa_nil)) pe_int (nomark _)) (pss_one (ps_ret pe_str)) pss_nil)
    (pss_cons (ps_if (pt_cmpR op_eq (pe_callB (cr_min rfl) rfl mmin (by decide +kernel) (pa_cons (pv 2) pa_nil)) pe_int (nomark _)) (pss_one (ps_ret pe_str)) pss_nil)
    (pss_one (ps_ret pe_str)))))), ?_⟩)
  obtain ⟨n, a, nm, xs, rs, rfl, hn, hS, hR, hne, hl, hlf, q⟩ := h
  have hsz : sizeLine = 16777216 := rfl
  have hxl : xs.length = rs.length := by
    have := hR.len
    rwa [List.length_map] at this
  refine ⟨by show 0 ≤ sizeLine; decide, fun m hm => ?_⟩
  have s0 := same_new (H := H) (o := .lst []) hm
  refine ⟨_, rfl, a, rfl, ⟨_, s0.seq hS⟩, for_list (K := K) (a := a) (xs := xs) (fun i σ Hc => ∃ (b3 b4 : Option V), σ = [some (.ref n), some (.ref a), some (.ref m), b3, b4, none, none] ∧ Hc m = some (.lst (((rs.take i).map (cnt nm)).map V.int)) ∧ Same H Hc)
    ⟨none, none, rfl, upd_same, s0⟩ (fun i σ Hc _ ⟨_, _, _, _, k⟩ => k.seq hS) ?_ ?_⟩
  · rintro i x σ Hc hi ⟨b3, b4, rfl, hmc, k⟩
    obtain ⟨r, b, fxs, fs, rfl, e1, e2, e3, e4⟩ := hR.recAt hi
    have hil := (List.getElem?_eq_some_iff.mp hi).1
    have hfs := hlf fs (List.mem_of_getElem? e1)
    have hfl := e4.len
    refine ⟨r, _, rfl, SqT.of (k _ _ e2), rfl, _, _, rfl, _, _, rfl, rfl, ?_⟩
    refine ⟨_, rfl, .inl ⟨rfl, _, SqL.of hmc⟩, ?_⟩
    refine ⟨_, rfl, b, rfl, ⟨_, SqL.of (k _ _ e3)⟩, fun D hD => ?_⟩
    refine lc_list (K := K) (a := b) (xs := fxs) (fun j H3 => H3 D = some (.lst ((((fs.take j).filter fun e => e.1 == nm).map fun e => (e.2.length : Int)).map V.int)) ∧ Same Hc H3)
      ⟨upd_same, same_new hD⟩ (fun j H3 _ ⟨_, k4⟩ => SqL.of (k4 _ _ (k _ _ e3))) ?_ ?_
    · rintro j z H3 hz ⟨g1, k4⟩
      obtain ⟨f', n', o', s', vs', rfl, w1, w2, w3⟩ := e4.at hz
      obtain ⟨ys', w4, w5⟩ := e4.occAt hz w1 w2
      have k5 := k.trans k4
      have tk := take_more w1
      refine ⟨f', _, rfl, SqT.of (k5 _ _ w2), rfl, _, _, rfl, _, _, rfl, rfl, rfl, ?_⟩
      refine ⟨_, rfl, _, rfl, n', n, s', nm, rfl, rfl, k5 _ _ w3, k5 _ _ hn, _, rfl, ?_⟩
      cases c : (s' == nm) with
      | true =>
        have k6 : Same Hc (upd H3 D (.lst ((((fs.take j).filter fun e => e.1 == nm).map fun e => (e.2.length : Int)).map V.int ++ [.int (ys'.length : Int)]))) := fun y u w => by
          rw [upd_ne (ne_of_none w hD)]
          exact k4 _ _ w
        refine ⟨_, rfl, o', ys', rfl, .inl (SqL.of (k5 _ _ w4)), _, g1, ?_, ?_, k6⟩
        · rw [List.length_map, List.length_map]
          have h1 : ((fs.take j).filter fun e => e.1 == nm).length ≤ (fs.take j).length := List.length_filter_le ..
          rw [List.length_take] at h1
          omega
        · rw [upd_same, tk, List.filter_append, List.filter_cons_of_pos (by exact c), List.map_append, List.map_append, w5.len]
          rfl
      | false =>
        refine ⟨?_, k4⟩
        rw [tk, List.filter_append, List.filter_cons_of_neg (by simp [c]), List.filter_nil, List.append_nil]
        exact g1
    · rintro H3 ⟨g1, k4⟩
      have hall : fs.take fxs.length = fs := by
        rw [hfl]
        exact List.take_of_length_le (Nat.le_refl _)
      rw [hall] at g1
      refine ⟨D, _, rfl, SqL.of g1, m, _, _, rfl, rfl, k4 _ _ hmc, ?_, ?_⟩
      · rw [List.length_map, List.length_map, List.length_take]
        omega
      · refine ⟨_, _, rfl, ?_, fun y u w => ?_⟩
        · rw [upd_same, take_more e1, List.map_append, List.map_append]
          rfl
        · rw [upd_ne (ne_of_none w hm)]
          exact k4 _ _ (k _ _ w)
  · rintro σ Hc ⟨b3, b4, rfl, hmc, k⟩
    have hall : rs.take xs.length = rs := by
      rw [hxl]
      exact List.take_of_length_le (Nat.le_refl _)
    rw [hall] at hmc
    have hpos : 0 < (rs.map (cnt nm)).length := by
      rw [List.length_map]
      exact List.length_pos_iff.mpr hne
    have nonneg : ∀ z ∈ rs.map (cnt nm), 0 ≤ z := fun z hz => by
      obtain ⟨fs, _, rfl⟩ := List.mem_map.mp hz
      rw [cnt_occ]
      omega
    generalize hcs : rs.map (cnt nm) = cs at *
    have fin := q Hc k
    unfold modeS at fin
    refine ⟨_, rfl, m, cs, rfl, SqL.of hmc, hpos, fun mx hx1 hx2 => ?_⟩
    refine ⟨_, _, rfl, rfl, _, rfl, ifb (fun c => ?_) fun c => ?_⟩
    · have c' : (1 : Int) < mx := of_decide_eq_true c
      have h1 : ¬ (cs.all fun k => k == 1) = true := fun z => by
        have : mx = 1 := by simpa using List.all_eq_true.mp z mx hx1
        omega
      have h2 : ¬ (cs.all fun k => decide (k ≤ 1)) = true := fun z => by
        have : mx ≤ 1 := by simpa using List.all_eq_true.mp z mx hx1
        omega
      rw [if_neg h1, if_neg h2] at fin
      exact fin
    · have c' : ¬ (1 : Int) < mx := of_decide_eq_false c
      have h2 : (cs.all fun k => decide (k ≤ 1)) = true := List.all_eq_true.mpr fun z hz => by
        have := hx2 z hz
        exact decide_eq_true (by omega)
      rw [if_pos h2] at fin
      refine ⟨_, rfl, m, cs, rfl, SqL.of hmc, hpos, fun mn hn1 hn2 => ?_⟩
      refine ⟨rfl, _, rfl, ifb (fun c2 => ?_) fun c2 => ?_⟩
      · rw [dec_int, ← dib] at c2
        have c2' : mn = 1 := of_decide_eq_true c2
        have h1 : (cs.all fun k => k == 1) = true := List.all_eq_true.mpr fun z hz => by
          have h3 := hn2 z hz
          have h4 := hx2 z hz
          have : z = 1 := by omega
          simp [this]
        rw [if_pos h1] at fin
        exact fin
      · rw [dec_int, ← dib] at c2
        have c2' : ¬ mn = 1 := of_decide_eq_false c2
        have h1 : ¬ (cs.all fun k => k == 1) = true := fun z => c2' (by simpa using List.all_eq_true.mp z mn hn1)
        rw [if_neg h1] at fin
        exact fin
end SF
end -- S6

section -- S7
set_option Elab.async false
set_option linter.all false
set_option maxRecDepth 100000
set_option maxHeartbeats 8000000
/-! # S7: names_before -/
namespace SF
open PySem PySem.Spec PyProof.Rows L2
open Vacolo (Loose)
variable {P : Program} {w : World} {K : PySem.W.Frag} {mg : Str → Option Value} {base : Heap}
/-- the dict at o has these names as keys -/
def KeysOf (Hc : Hp) (o : Addr) (B : List Nat → Prop) : Prop := ∃ (ks : List (List L2.Key × V)) (ms : List (List Nat)), Hc o = some (.dT ks) ∧ ks.map (·.1) = ms.map nmK ∧ ms.Nodup ∧ ∀ m, m ∈ ms ↔ B m
/-- the dict at d: names, each with a dict of names -/
structure NB (H Hc : Hp) (d : Addr) (S : List Nat → Prop) (B : List Nat → List Nat → Prop) : Prop where
  ex : ∃ (kvs : List (List L2.Key × V)) (ns : List (List Nat)), Hc d = some (.dT kvs) ∧ kvs.map (·.1) = ns.map nmK ∧ ns.Nodup ∧ (∀ n, n ∈ ns ↔ S n) ∧
    (∀ n ∈ ns, ∃ o, valV kvs (nmK n) = some (.ref o) ∧ H o = none ∧ o ≠ d ∧ KeysOf Hc o (B n)) ∧ (∀ n m o, valV kvs (nmK n) = some (.ref o) → valV kvs (nmK m) = some (.ref o) → n = m)
theorem KeysOf.keep {Hc Hd : Hp} {o : Addr} {B : List Nat → Prop} (h : KeysOf Hc o B) (s : Same Hc Hd) : KeysOf Hd o B := by
  obtain ⟨ks, ms, a, b⟩ := h
  exact ⟨ks, ms, s _ _ a, b⟩
theorem KeysOf.iff {Hc : Hp} {o : Addr} {B B' : List Nat → Prop} (h : KeysOf Hc o B) (e : ∀ m, B m ↔ B' m) : KeysOf Hc o B' := by
  obtain ⟨ks, ms, a, b, c, d⟩ := h
  exact ⟨ks, ms, a, b, c, fun m => (d m).trans (e m)⟩
theorem NB.keep {H Hc Hd : Hp} {d : Addr} {S : List Nat → Prop} {B : List Nat → List Nat → Prop} (g : NB H Hc d S B) (s : Same Hc Hd) : NB H Hd d S B := by
  obtain ⟨kvs, ns, h1, h2, h3, h4, h5, h6⟩ := g.ex
  exact ⟨kvs, ns, s _ _ h1, h2, h3, h4, fun n hn => by obtain ⟨o, e1, e2, e3, e4⟩ := h5 n hn; exact ⟨o, e1, e2, e3, e4.keep s⟩, h6⟩
theorem NB.iff {H Hc : Hp} {d : Addr} {S S' : List Nat → Prop} {B B' : List Nat → List Nat → Prop} (g : NB H Hc d S B) (e1 : ∀ n, S n ↔ S' n) (e2 : ∀ n m, B n m ↔ B' n m) : NB H Hc d S' B' := by
  obtain ⟨kvs, ns, h1, h2, h3, h4, h5, h6⟩ := g.ex
  exact ⟨kvs, ns, h1, h2, h3, fun n => (h4 n).trans (e1 n), fun n hn => by obtain ⟨o, q1, q2, q3, q4⟩ := h5 n hn; exact ⟨o, q1, q2, q3, q4.iff (e2 n)⟩, h6⟩
/-- a name entered -/
theorem NB.enter {H Hc : Hp} {d e : Addr} {S : List Nat → Prop} {B : List Nat → List Nat → Prop} {n : List Nat} {kvs : List (List L2.Key × V)} (g : NB H Hc d S B) (hd : Hc d = some (.dT kvs)) (hv : valV kvs (nmK n) = none) (he : Hc e = none) (hH : H e = none) (hB : ∀ m, ¬ B n m) :
    NB H (upd (upd Hc e (.dT [])) d (.dT (putK kvs (nmK n) (.ref e)))) d (fun m => S m ∨ m = n) B := by
  obtain ⟨kvs', ns, h1, h2, h3, h4, h5, h6⟩ := g.ex
  rw [hd] at h1
  cases h1
  have hn := val_out h2 hv
  have ned : d ≠ e := ne_of_none hd he
  have noe : ∀ m o, valV kvs (nmK m) = some (.ref o) → o ≠ e := fun m o hm z => by
    obtain ⟨o', e1, e2, e3, ks, ms, e4, _⟩ := h5 m (val_in h2 hm)
    rw [hm] at e1
    cases e1
    rw [z, he] at e4
    cases e4
  refine ⟨putK kvs (nmK n) (.ref e), ns ++ [n], upd_same, ?_, ?_, fun m => ?_, fun m hm => ?_, fun m k o hm hk => ?_⟩
  · rw [putK_new _ hv, List.map_append, List.map_append, h2]
    rfl
  · refine List.nodup_append.mpr ⟨h3, by simp, fun a ha b hb => ?_⟩
    rw [List.mem_singleton.mp hb]
    intro z
    exact hn (z ▸ ha)
  · rw [List.mem_append, h4, List.mem_singleton]
  · by_cases z : m = n
    · subst z
      refine ⟨e, ?_, hH, Ne.symm ned, [], [], ?_, rfl, List.nodup_nil, fun k => ?_⟩
      · rw [valV_put, if_pos rfl]
      · rw [upd_ne (Ne.symm ned), upd_same]
      · constructor
        · intro h; cases h
        · intro h; exact (hB k h).elim
    · obtain ⟨o', e1, e2, e3, ks, ms, e4, e5⟩ := h5 m ((List.mem_append.mp hm).resolve_right fun w => z (List.mem_singleton.mp w))
      refine ⟨o', ?_, e2, e3, ks, ms, ?_, e5⟩
      · rw [valV_put, if_neg fun w => z (nmK_inj w)]
        exact e1
      · rw [upd_ne e3, upd_ne (noe m o' e1)]
        exact e4
  · rw [valV_put] at hm hk
    by_cases z1 : nmK m = nmK n
    · by_cases z2 : nmK k = nmK n
      · rw [nmK_inj z1, nmK_inj z2]
      · rw [if_pos z1] at hm
        rw [if_neg z2] at hk
        cases hm
        exact (noe k e hk rfl).elim
    · by_cases z2 : nmK k = nmK n
      · rw [if_neg z1] at hm
        rw [if_pos z2] at hk
        cases hk
        exact (noe m e hm rfl).elim
      · rw [if_neg z1] at hm
        rw [if_neg z2] at hk
        exact h6 m k o hm hk
/-- a name put before a name -/
theorem NB.put {H Hc : Hp} {d o : Addr} {S : List Nat → Prop} {B : List Nat → List Nat → Prop} {n m : List Nat} {kvs ks : List (List L2.Key × V)} (g : NB H Hc d S B) (hd : Hc d = some (.dT kvs)) (hv : valV kvs (nmK n) = some (.ref o)) (ho : Hc o = some (.dT ks)) (v : V) :
    NB H (upd Hc o (.dT (putK ks (nmK m) v))) d S (fun a b => B a b ∨ (a = n ∧ b = m)) := by
  obtain ⟨kvs', ns, h1, h2, h3, h4, h5, h6⟩ := g.ex
  rw [hd] at h1
  cases h1
  have hn := val_in h2 hv
  obtain ⟨o1, q1, q2, q3, ks1, ms, q4, q5, q6, q7⟩ := h5 n hn
  rw [hv] at q1
  cases q1
  rw [ho] at q4
  cases q4
  refine ⟨kvs, ns, (upd_ne (Ne.symm q3)).trans hd, h2, h3, h4, fun a ha => ?_, h6⟩
  by_cases z : a = n
  · subst z
    refine ⟨o, hv, q2, q3, putK ks (nmK m) v, if m ∈ ms then ms else ms ++ [m], upd_same, ?_, ?_, fun b => ?_⟩
    · cases e : valV ks (nmK m) with
      | none =>
        rw [putK_new _ e, if_neg (val_out q5 e), List.map_append, List.map_append, q5]
        rfl
      | some u =>
        rw [if_pos (val_in q5 e), ← q5]
        unfold putK
        rw [valV_any, e, if_pos (show (some u).isSome = true from rfl), List.map_map]
        refine List.map_congr_left fun kv _ => ?_
        show (if kv.1 = nmK m then (kv.1, v) else kv).1 = kv.1
        split <;> rfl
    · split
      · exact q6
      · rename_i hm
        refine List.nodup_append.mpr ⟨q6, by simp, fun x hx y hy => ?_⟩
        rw [List.mem_singleton.mp hy]
        intro w
        exact hm (w ▸ hx)
    · split
      · rename_i hm
        rw [q7]
        constructor
        · exact .inl
        · rintro (w | ⟨_, rfl⟩)
          · exact w
          · exact (q7 b).mp hm
      · rw [List.mem_append, q7, List.mem_singleton]
        constructor
        · rintro (w | w)
          · exact .inl w
          · exact .inr ⟨rfl, w⟩
        · rintro (w | ⟨_, w⟩)
          · exact .inl w
          · exact .inr w
  · obtain ⟨o', e1, e2, e3, ks', ms', e4, e5, e6, e7⟩ := h5 a ha
    have ne : o' ≠ o := fun w => z (h6 a n o' e1 (by rw [w]; exact hv))
    refine ⟨o', e1, e2, e3, ks', ms', (upd_ne ne).trans e4, e5, e6, fun b => (e7 b).trans ?_⟩
    constructor
    · exact .inl
    · rintro (w | ⟨w, _⟩)
      · exact w
      · exact (z w).elim
theorem NB.len {H Hc : Hp} {d : Addr} {S : List Nat → Prop} {B : List Nat → List Nat → Prop} {ALL : List (List Nat)} (g : NB H Hc d S B) (hS : ∀ n, S n → n ∈ ALL) {kvs : List (List L2.Key × V)} (hd : Hc d = some (.dT kvs)) : kvs.length ≤ ALL.length := by
  obtain ⟨kvs', ns, h1, h2, h3, h4, _⟩ := g.ex
  rw [hd] at h1
  cases h1
  have e := congrArg List.length h2
  rw [List.length_map, List.length_map] at e
  rw [e]
  exact List.Nodup.length_le_of_subset h3 fun n hn => hS n ((h4 n).mp hn)
theorem KeysOf.len {Hc : Hp} {o : Addr} {B : List Nat → Prop} {ALL : List (List Nat)} (g : KeysOf Hc o B) (hB : ∀ m, B m → m ∈ ALL) {ks : List (List L2.Key × V)} (ho : Hc o = some (.dT ks)) : ks.length ≤ ALL.length := by
  obtain ⟨ks', ms, h1, h2, h3, h4⟩ := g
  rw [ho] at h1
  cases h1
  have e := congrArg List.length h2
  rw [List.length_map, List.length_map] at e
  rw [e]
  exact List.Nodup.length_le_of_subset h3 fun n hn => hB n ((h4 n).mp hn)
/-- a name stands in one of the rows; one stands before another in one of them -/
def InR (rows : List (List (List Nat))) (n : List Nat) : Prop := ∃ r ∈ rows, n ∈ r
def Bef (rows : List (List (List Nat))) (n m : List Nat) : Prop := ∃ r ∈ rows, ∃ k : Nat, r[k]? = some n ∧ m ∈ r.take k
theorem nb_start {H Hc : Hp} {d : Addr} {rows : List (List (List Nat))} (h : Hc d = some (.dT [])) : NB H Hc d (InR (rows.take 0)) (Bef (rows.take 0)) := by
  refine ⟨[], [], h, rfl, List.nodup_nil, fun n => ⟨fun z => ?_, ?_⟩, fun n z => ?_, fun n m o z => ?_⟩
  · cases z
  · rintro ⟨r, z, _⟩
    simp at z
  · cases z
  · cases z
def spBefore (K : PySem.W.Frag) : Sp := fun vs H Q _ => ∃ (a : Addr) (xs : List V) (rows : List (List (List Nat))), vs = [.ref a] ∧ SqL K H a xs ∧ Rws H xs rows ∧ rows.flatten.length ≤ 1000000 ∧ ∀ H' d, Same H H' → H d = none → NB H H' d (InR rows) (Bef rows) → Q (.ref d) H'
abbrev befN : List Str := ["rows", "found", "row", "at", "name", "other"]
theorem sc_names_before : FnScope befN ["rows"] (defScope s_names_before) := ⟨rfl, rfl, rfl, by decide +kernel, rfl, by decide +kernel, by decide +kernel⟩
theorem ok_names_before (T : Txt K mg) : DefOk P w K mg base CX0 1 (He.ga K "names_before") ["rows"] (spBefore K) := by
  obtain ⟨fd, F⟩ := dT T defsB (.inr (.inl rfl)) 4 rfl
  refine ⟨fd, ?_, bind1 F fun _ _ _ _ _ _ _ => rfl, F.kp⟩
  have nd := sc_names_before.nd
  have menum := T.free "enumerate" (by decide +kernel)
  refine F.ok sc_names_before (fun vs H Q E h => by obtain ⟨a, xs, rs, rfl, _⟩ := h; rfl) (fun cdv A outer s H vs Q E hr h => ⟨_,
    (pss_cons (ps_set (i := 1) nd rfl (.inl rfl) pe_dnewT)
    (pss_cons (ps_for PassesOwn.never rfl (pi_list (pv 0)) (pg_name (i := 2) nd rfl (Or.inl rfl))
      (pss_one (ps_for PassesOwn.never rfl (pi_enum rfl menum (pa_cons (pv 2) pa_nil)) (pg_tup rfl (pgs_cons (pg_name (i := 3) nd rfl (Or.inl rfl)) (pgs_cons (pg_name (i := 4) nd rfl (Or.inl rfl)) pgs_nil)))
        (pss_cons (ps_expr (pe_bm PySem.F.plainAttrs_dict PySem.F.slot_dict_setdefault PySem.F.type_dict_setdefault (mt_setT (Room.un1 hr)) (pv 1) (pa_cons (pv 4) (pa_cons (pe_dnewT) pa_nil))))
    (pss_one (ps_for PassesOwn.never rfl (pi_list (pe_slice sl_list (pv 2) po_none (po_some (pv 3)))) (pg_name (i := 5) nd rfl (Or.inl rfl))
          (pss_one (ps_dput (Room.un1 hr) (pe_dget (Room.un1 hr) (pv 1) (pv 4) (fun _ _ => rfl)) (pv 5) pe_bl rfl))))))))
    (pss_one (ps_ret (pv 1))))), ?_⟩)
  obtain ⟨a, xs, rows, rfl, hS, hR, hl, q⟩ := h
  have hsz : sizeLine = 16777216 := rfl
  intro d hd
  have s0 := same_new (H := H) (o := .dT []) hd
  have inAll : ∀ i n, InR (rows.take i) n → n ∈ rows.flatten := fun i n ⟨r, hr, hn⟩ => List.mem_flatten.mpr ⟨r, List.mem_of_mem_take hr, hn⟩
  refine ⟨_, rfl, a, rfl, ⟨_, s0.seq hS⟩, for_list (K := K) (a := a) (xs := xs) (fun i σ Hc => ∃ (b2 b3 b4 b5 : Option V), σ = [some (.ref a), some (.ref d), b2, b3, b4, b5] ∧ NB H Hc d (InR (rows.take i)) (Bef (rows.take i)) ∧ Same H Hc)
    ⟨none, none, none, none, rfl, nb_start upd_same, s0⟩ (fun i σ Hc _ ⟨_, _, _, _, _, _, k⟩ => k.seq hS) ?_ ?_⟩
  · rintro i x σ Hc hi ⟨b2, b3, b4, b5, rfl, g, k⟩
    obtain ⟨b, ns, r, rfl, e1, e2, e3⟩ := hR.at hi
    have hrm : r ∈ rows := List.mem_of_getElem? e1
    have tk := take_more e1
    have rAll : ∀ n, n ∈ r → n ∈ rows.flatten := fun n hn => List.mem_flatten.mpr ⟨r, hrm, hn⟩
    refine ⟨_, rfl, b, ns, rfl, SqL.of (k _ _ e2), ?_⟩
    refine for_it walk_enum (fun j σ Hd => ∃ (b3 b4 b5 : Option V), σ = [some (.ref a), some (.ref d), some (.ref b), b3, b4, b5] ∧ NB H Hd d (fun n => InR (rows.take i) n ∨ n ∈ r.take j) (fun n m => Bef (rows.take i) n m ∨ ∃ k : Nat, k < j ∧ r[k]? = some n ∧ m ∈ r.take k) ∧ Same H Hd)
      ⟨b3, b4, b5, rfl, g.iff (fun n => by simp) (fun n m => ⟨.inl, fun z => z.resolve_right fun ⟨k, h, _⟩ => by omega⟩), k⟩ (fun j σ Hd _ ⟨_, _, _, _, _, k4⟩ => SqL.of (k4 _ _ e2)) ?_ ?_
    · rintro j v σ Hd Hd' hj ⟨b3, b4, b5, rfl, gd, kd⟩ ⟨Tt, x, y, rfl, nT, rfl, ex, ey⟩
      cases ex
      obtain ⟨n', s', rfl, w1, w2⟩ := e3.at ey
      have sT := same_new (H := Hd) (o := .tup [.int ((j : Nat) : Int), .ref n']) nT
      replace gd := gd.keep sT
      replace kd := kd.trans sT
      generalize hHe : upd Hd Tt (.tup [.int ((j : Nat) : Int), .ref n']) = He at *
      have hTt : He Tt = some (.tup [.int ((j : Nat) : Int), .ref n']) := by rw [← hHe]; exact upd_same
      refine ⟨Tt, _, rfl, SqT.of hTt, rfl, _, _, rfl, _, _, rfl, rfl, ?_⟩
      have hjr : r.take (j + 1) = r.take j ++ [s'] := take_more w1
      obtain ⟨kvs, ks0, h1, h2, h3, h4, h5, h6⟩ := gd.ex
      have kvl := gd.len (ALL := rows.flatten) (fun n hn => hn.elim (inAll i n) fun z => rAll n (List.mem_of_mem_take z)) h1
      -- what goes on with the name entered
      have cont : ∀ (u : V) (H2 : Hp), Same H H2 → NB H H2 d (fun n => InR (rows.take i) n ∨ n ∈ r.take (j + 1)) (fun n m => Bef (rows.take i) n m ∨ ∃ k : Nat, k < j ∧ r[k]? = some n ∧ m ∈ r.take k) → ∀ D : Ends, (∀ σ H', (∃ (b3 b4 b5 : Option V), σ = [some (.ref a), some (.ref d), some (.ref b), b3, b4, b5] ∧
            NB H H' d (fun n => InR (rows.take i) n ∨ n ∈ r.take (j + 1)) (fun n m => Bef (rows.take i) n m ∨ ∃ k : Nat, k < j + 1 ∧ r[k]? = some n ∧ m ∈ r.take k) ∧ Same H H') → D.nx σ H') →
          tFor (iList K (tSl (rSlL K) (tVar 2) tNoPart (tPart (tVar 3)))) (gName 5) (sDPut (tDGet (tVar 1) (tVar 4)) (tVar 5) (tC (.bl true))) D [some (.ref a), some (.ref d), some (.ref b), some (.int (j : Int)), some (.ref n'), b5] H2 := by
        intro u H2 k2 g2 D hD
        refine ⟨_, rfl, _, rfl, _, rfl, b, _, rfl, SqL.of (k2 _ _ e2), fun l hl2 => ?_⟩
        have ec : cutV ns none (some ((j : Nat) : Int)) = ns.take j := by
          unfold cutV
          rw [HT.sIx_nat, HT.sIx_none, List.drop_zero]
          have : min j ns.length = j := by omega
          rw [this]
          rfl
        rw [ec]
        have sl := same_new (H := H2) (o := .lst (ns.take j)) hl2
        have hlH : H l = none := Same.fresh k2 hl2
        refine ⟨l, rfl, ⟨_, SqL.of upd_same⟩, for_list (K := K) (a := l) (xs := ns.take j) (fun c σ Hf => ∃ (b5 : Option V), σ = [some (.ref a), some (.ref d), some (.ref b), some (.int (j : Int)), some (.ref n'), b5] ∧
            NB H Hf d (fun n => InR (rows.take i) n ∨ n ∈ r.take (j + 1)) (fun n m => (Bef (rows.take i) n m ∨ ∃ k : Nat, k < j ∧ r[k]? = some n ∧ m ∈ r.take k) ∨ (n = s' ∧ m ∈ r.take c)) ∧ Same H Hf ∧ Hf l = some (.lst (ns.take j)))
          ⟨b5, rfl, (g2.keep sl).iff (fun n => Iff.rfl) (fun n m => ⟨.inl, fun z => z.resolve_right fun ⟨_, h⟩ => by simp at h⟩), k2.trans sl, upd_same⟩ (fun c σ Hf _ ⟨_, _, _, _, h⟩ => SqL.of h) ?_ ?_⟩
        · rintro c z σ Hf hz ⟨b5, rfl, gf, kf, hlf⟩
          have hcj : c < j := by
            have := (List.getElem?_eq_some_iff.mp hz).1
            rw [List.length_take] at this
            omega
          rw [List.getElem?_take_of_lt hcj] at hz
          obtain ⟨n2, s2, rfl, v1, v2⟩ := e3.at hz
          obtain ⟨kv2, ks2, f1, f2, f3, f4, f5, f6⟩ := gf.ex
          have hs' : s' ∈ ks2 := (f4 s').mpr (.inr (by rw [hjr]; simp))
          obtain ⟨o, o1, o2, o3, o4⟩ := f5 s' hs'
          obtain ⟨ks, ms, p1, p2, p3, p4⟩ := id o4
          have dg : DGet Hf d (.ref n') (some (.ref o)) := by
            rw [← o1]
            exact DGet.t f1 (nm_key (kf _ _ w2))
          have ksl := o4.len (ALL := rows.flatten) (fun m hm => ?_) p1
          · refine ⟨_, rfl, _, rfl, d, _, rfl, dg, _, rfl, o, _, rfl, DPut.t p1 (nm_key (kf _ _ v2)) (by omega), ?_⟩
            refine ⟨_, rfl, (gf.put f1 o1 p1 (.bl true)).iff (fun n => Iff.rfl) (fun n m => ?_), fun y u w => ?_, ?_⟩
            · rw [take_more v1, List.mem_append, List.mem_singleton]
              constructor
              · rintro ((h | ⟨h, h'⟩) | ⟨h, h'⟩)
                · exact .inl h
                · exact .inr ⟨h, .inl h'⟩
                · exact .inr ⟨h, .inr h'⟩
              · rintro (h | ⟨h, h' | h'⟩)
                · exact .inl (.inl h)
                · exact .inl (.inr ⟨h, h'⟩)
                · exact .inr ⟨h, h'⟩
            · rw [upd_ne (ne_of_none w o2)]
              exact kf _ _ w
            · rw [upd_ne (ne_of hlf p1 (by intro z; cases z))]
              exact hlf
          · rcases hm with (⟨r', hr', k', h1', h2'⟩ | ⟨k', h1', h2', h3'⟩) | ⟨_, h⟩
            · exact List.mem_flatten.mpr ⟨r', List.mem_of_mem_take hr', List.mem_of_mem_take h2'⟩
            · exact rAll m (List.mem_of_mem_take h3')
            · exact rAll m (List.mem_of_mem_take h)
        · rintro σ Hf ⟨b5, rfl, gf, kf, hlf⟩
          refine hD _ _ ⟨_, _, _, rfl, gf.iff (fun n => Iff.rfl) (fun n m => ?_), kf⟩
          have hlen : (ns.take j).length = j := by
            rw [List.length_take]
            omega
          rw [hlen]
          constructor
          · rintro ((h | ⟨k', z1, z2, z3⟩) | ⟨rfl, h⟩)
            · exact .inl h
            · exact .inr ⟨k', by omega, z2, z3⟩
            · exact .inr ⟨j, by omega, w1, h⟩
          · rintro (h | ⟨k', z1, z2, z3⟩)
            · exact .inl (.inl h)
            · by_cases z : k' = j
              · subst z
                rw [w1] at z2
                exact .inr ⟨(Option.some.inj z2).symm, z3⟩
              · exact .inl (.inr ⟨k', by omega, z2, z3⟩)
      refine ⟨_, rfl, .inr (.inr (.inl ⟨rfl, .inr ⟨_, h1⟩⟩)), _, rfl, fun e he => ?_⟩
      delta tNil
      dsimp only
      have se := same_new (H := He) (o := .dT []) he
      refine ⟨d, n', kvs, nmK s', .ref e, rfl, rfl, se _ _ h1, nm_key (se _ _ (kd _ _ w2)), by omega, fun v hv => ?_, fun hv => ?_⟩
      · have hin := val_in h2 hv
        refine cont v _ (kd.trans se) ((gd.keep se).iff (fun n => ?_) fun n m => Iff.rfl) _ fun σ H' z => z
        rw [hjr, List.mem_append, List.mem_singleton]
        constructor
        · rintro (z | z)
          · exact .inl z
          · exact .inr (.inl z)
        · rintro (z | z | z)
          · exact .inl z
          · exact .inr z
          · rw [z]
            exact (h4 s').mp hin
      · have hout := val_out h2 hv
        have noB : ∀ m, ¬ (Bef (rows.take i) s' m ∨ ∃ k : Nat, k < j ∧ r[k]? = some s' ∧ m ∈ r.take k) := fun m hm => by
          refine hout ((h4 s').mpr ?_)
          rcases hm with ⟨r', hr', k', z1, _⟩ | ⟨k', z1, z2, _⟩
          · exact .inl ⟨r', hr', List.mem_of_getElem? z1⟩
          · exact .inr (List.mem_of_getElem? (by rw [List.getElem?_take_of_lt z1]; exact z2))
        have g2 := gd.enter h1 hv he (Same.fresh kd he) noB
        refine cont (.ref e) _ (fun y u w => ?_) (g2.iff (fun n => ?_) fun n m => Iff.rfl) _ fun σ H' z => z
        · rw [upd_ne (ne_of_none w hd)]
          exact se _ _ (kd _ _ w)
        · rw [hjr, List.mem_append, List.mem_singleton, or_assoc]
    · rintro σ Hd ⟨b3, b4, b5, rfl, gd, kd⟩
      have hlen : r.take ns.length = r := by
        rw [e3.len]
        exact List.take_of_length_le (Nat.le_refl _)
      refine ⟨_, _, _, _, rfl, gd.iff (fun n => ?_) (fun n m => ?_), kd⟩
      · rw [hlen, tk]
        constructor
        · rintro (⟨r', z1, z2⟩ | z)
          · exact ⟨r', List.mem_append_left _ z1, z2⟩
          · exact ⟨r, by simp, z⟩
        · rintro ⟨r', z1, z2⟩
          rcases List.mem_append.mp z1 with z1 | z1
          · exact .inl ⟨r', z1, z2⟩
          · rw [List.mem_singleton.mp z1] at z2
            exact .inr z2
      · rw [tk]
        constructor
        · rintro (⟨r', z1, k', z2, z3⟩ | ⟨k', z1, z2, z3⟩)
          · exact ⟨r', List.mem_append_left _ z1, k', z2, z3⟩
          · exact ⟨r, by simp, k', z2, z3⟩
        · rintro ⟨r', z1, k', z2, z3⟩
          rcases List.mem_append.mp z1 with z1 | z1
          · exact .inl ⟨r', z1, k', z2, z3⟩
          · rw [List.mem_singleton.mp z1] at z2 z3
            refine .inr ⟨k', ?_, z2, z3⟩
            have := (List.getElem?_eq_some_iff.mp z2).1
            rw [e3.len]
            exact this
  · rintro σ Hc ⟨b2, b3, b4, b5, rfl, g, k⟩
    have hall : rows.take xs.length = rows := by
      rw [hR.len]
      exact List.take_of_length_le (Nat.le_refl _)
    rw [hall] at g
    exact ⟨_, rfl, q Hc d k hd g⟩
end SF
end -- S7

section -- S8
set_option Elab.async false
set_option linter.all false
set_option maxRecDepth 100000
set_option maxHeartbeats 8000000
/-! # S8: order_of -/
namespace SF
open PySem PySem.Spec PyProof.Rows L2
open Vacolo (Loose inOrder free)
variable {P : Program} {w : World} {K : PySem.W.Frag} {mg : Str → Option Value} {base : Heap}
/-! ### the order, plainly -/
def blocked (rows : List (List (List Nat))) (left : List (List Nat)) (n : List Nat) : Prop := ∃ m, Bef rows n m ∧ m ∈ left
theorem take_before {r : List (List Nat)} (hn : r.Nodup) {k : Nat} {n : List Nat} (h : r[k]? = some n) : r.take k = r.takeWhile fun m => m != n := by
  induction r generalizing k with
  | nil => simp at h
  | cons a r ih =>
    obtain ⟨h1, h2⟩ := List.nodup_cons.mp hn
    cases k with
    | zero =>
      have : a = n := Option.some.inj h
      rw [List.takeWhile_cons_of_neg (by simp [this])]
      rfl
    | succ k =>
      have h' : r[k]? = some n := h
      have : a ≠ n := fun z => h1 (z ▸ List.mem_of_getElem? h')
      rw [List.takeWhile_cons_of_pos (by simpa using this), List.take_succ_cons, ih h2 h']
theorem free_iff {rows : List (List (List Nat))} (hn : ∀ r ∈ rows, r.Nodup) (left : List (List Nat)) (n : List Nat) : free rows left n = true ↔ ¬ blocked rows left n := by
  unfold free blocked
  rw [List.all_eq_true]
  constructor
  · rintro h ⟨m, ⟨r, hr, k, h1, h2⟩, h3⟩
    have := h r hr
    rw [take_before (hn r hr) h1] at h2
    have hc : r.contains n = true := by simpa using List.mem_of_getElem? h1
    rw [hc] at this
    simp only [Bool.not_true, Bool.false_or] at this
    have := List.all_eq_true.mp this m h2
    have hm : left.contains m = true := by simpa using h3
    rw [hm] at this
    cases this
  · intro h r hr
    cases hc : r.contains n with
    | false => rfl
    | true =>
      simp only [Bool.not_true, Bool.false_or]
      refine List.all_eq_true.mpr fun m hm => ?_
      cases hl : left.contains m with
      | false => rfl
      | true =>
        exfalso
        have hmem : n ∈ r := by simpa using hc
        obtain ⟨k, hk, e⟩ := List.getElem_of_mem hmem
        have e2 : r[k]? = some n := by rw [List.getElem?_eq_getElem hk, e]
        exact h ⟨m, ⟨r, hr, k, e2, by rw [take_before (hn r hr) e2]; exact hm⟩, by simpa using hl⟩
theorem filter_erase {l : List (List Nat)} (hn : l.Nodup) {j : Nat} {n : List Nat} (h : l[j]? = some n) : l.filter (fun m => m != n) = l.eraseIdx j := by
  induction l generalizing j with
  | nil => simp at h
  | cons a l ih =>
    obtain ⟨h1, h2⟩ := List.nodup_cons.mp hn
    cases j with
    | zero =>
      have e : a = n := Option.some.inj h
      rw [List.filter_cons_of_neg (by simp [e]), List.eraseIdx_cons_zero]
      refine List.filter_eq_self.mpr fun m hm => ?_
      have : m ≠ n := fun z => h1 (by rw [e, ← z]; exact hm)
      simpa using this
    | succ j =>
      have h' : l[j]? = some n := h
      have : a ≠ n := fun z => h1 (z ▸ List.mem_of_getElem? h')
      rw [List.filter_cons_of_pos (by simpa using this), List.eraseIdx_cons_succ, ih h2 h']
theorem inO_nil (rows : List (List (List Nat))) (k : Nat) : inOrder rows k [] = some [] := by
  cases k <;> rfl
theorem inO_step {rows : List (List (List Nat))} {left : List (List Nat)} (h : left ≠ []) : inOrder rows left.length left = match left.filter (free rows left) with
    | [] => none
    | n :: _ => (inOrder rows (left.length - 1) (left.filter fun m => m != n)).map fun l => n :: l := by
  cases left with
  | nil => exact (h rfl).elim
  | cons a l =>
    rw [List.length_cons, inOrder]
    · have hf : (a :: l).find? (free rows (a :: l)) = ((a :: l).filter (free rows (a :: l))).head? := (List.head?_filter ..).symm
      rw [hf]
      cases (a :: l).filter (free rows (a :: l)) <;> rfl
    · intro z
      cases z
theorem Nms.erase {H : Hp} : ∀ {xs : List V} {ss : List (List Nat)} (j : Nat), Nms H xs ss → Nms H (xs.eraseIdx j) (ss.eraseIdx j)
  | [], [], _, _ => trivial
  | x :: xs, s :: ss, 0, ⟨_, r⟩ => r
  | x :: xs, s :: ss, j + 1, ⟨h, r⟩ => ⟨h, Nms.erase j r⟩
  | [], _ :: _, _, h => h.elim
  | _ :: _, [], _, h => h.elim
theorem NB.keepT {H Hc Hd : Hp} {d : Addr} {S : List Nat → Prop} {B : List Nat → List Nat → Prop} (g : NB H Hc d S B) (s : ∀ c kv, Hc c = some (.dT kv) → Hd c = some (.dT kv)) : NB H Hd d S B := by
  obtain ⟨kvs, ns, h1, h2, h3, h4, h5, h6⟩ := g.ex
  exact ⟨kvs, ns, s _ _ h1, h2, h3, h4, fun n hn => by obtain ⟨o, e1, e2, e3, ks, ms, e4, e5⟩ := h5 n hn; exact ⟨o, e1, e2, e3, ks, ms, s _ _ e4, e5⟩, h6⟩
theorem nodup_one : ∀ {l : List (List Nat)} {i j : Nat} {x : List Nat}, l.Nodup → l[i]? = some x → l[j]? = some x → i = j
  | [], _, _, _, _, h, _ => by simp at h
  | a :: l, 0, 0, _, _, _, _ => rfl
  | a :: l, 0, j + 1, x, hn, h1, h2 => by
    have e : a = x := Option.some.inj h1
    exact ((List.nodup_cons.mp hn).1 (e ▸ List.mem_of_getElem? h2)).elim
  | a :: l, i + 1, 0, x, hn, h1, h2 => by
    have e : a = x := Option.some.inj h2
    exact ((List.nodup_cons.mp hn).1 (e ▸ List.mem_of_getElem? h1)).elim
  | a :: l, i + 1, j + 1, x, hn, h1, h2 => congrArg (· + 1) (nodup_one (List.nodup_cons.mp hn).2 h1 h2)
def spOrder (K : PySem.W.Frag) : Sp := fun vs H Q _ => ∃ (a : Addr) (xs : List V) (rows : List (List (List Nat))), vs = [.ref a] ∧ SqL K H a xs ∧ Rws H xs rows ∧ rows.flatten.length ≤ 1000000 ∧ (∀ r ∈ rows, r.Nodup) ∧ (∀ r ∈ rows, ∀ n ∈ r, n ≠ []) ∧
  (inOrder rows (Vacolo.names rows.flatten).length (Vacolo.names rows.flatten) = none → ∀ H', Same H H' → Q .non H') ∧
  (∀ l, inOrder rows (Vacolo.names rows.flatten).length (Vacolo.names rows.flatten) = some l → ∀ H' p ys, Same H H' → H p = none → H' p = some (.lst ys) → Nms H' ys l → Q (.ref p) H')
abbrev ordN : List Str := ["rows", "before", "left", "found", "free", "name", "other"]
def whB : Stmt → Nat → Stmt
  | .While _ body _ _, i => body.getD i (.Pass ⟨0, 0, 0, 0⟩)
  | _, _ => .Pass ⟨0, 0, 0, 0⟩
abbrev scFree : Scope := lcSc (stE (whB (stAt s_order_of 3) 0))
theorem sc_order_of : FnScope ordN ["rows"] (defScope s_order_of) := ⟨rfl, rfl, rfl, by decide +kernel, rfl, by decide +kernel, by decide +kernel⟩
theorem ok_order_of (T : Txt K mg) : DefOk P w K mg base CX0 2 (He.ga K "order_of") ["rows"] (spOrder K) := by
  obtain ⟨fd, F⟩ := dT T defsB (.inr (.inl rfl)) 5 rfl
  refine ⟨fd, ?_, bind1 F fun _ _ _ _ _ _ _ => rfl, F.kp⟩
  have nd := sc_order_of.nd
  have msorted := T.free "sorted" (by decide +kernel)
  refine F.ok sc_order_of (fun vs H Q E h => by obtain ⟨a, xs, rs, rfl, _⟩ := h; rfl) (fun cdv A outer s H vs Q E hr h => ⟨_,
    (pss_cons (ps_set (i := 1) nd rfl (.inr rfl) (pcall (ok_names_before T) hr (T.glo "names_before" (by decide +kernel)) pass0 (pa_cons (pv 0) pa_nil)))
    (pss_cons (ps_set (i := 2) nd rfl (.inr rfl) (pe_callB (call_sortT rfl (Room.un65 hr)) rfl msorted (by decide +kernel) (pa_cons (pv 1) pa_nil)))
    (pss_cons (ps_set (i := 3) nd rfl (.inl rfl) (pe_lst pa_nil))
    (pss_cons (ps_while PassesOwn.never (pt_cmpR (op_neNil hr.units0) (pv 2) (pe_lst pa_nil) (nomark _))
      (pss_cons (ps_setLc (i := 4) (own := [("name", 5)]) (g := gName 5) (wi := iList K (tVar 2)) (te := tVar 5) (tt := tTest (tOp (rEqNil K) (tLockE (tLc (iKeys (tDGet (tVar 1) (tVar 5))) (gName 6) (tTest (tOp (rInN K) (tVar 6) (tVar 2))) (tVar 6) [6])) (tLst tNil))) rfl nd rfl rfl (sw_true rfl rfl rfl (by decide +kernel)) (pi_list (pv 2)) (blkOk_by (N := ordN) (sc := defScope s_order_of) (by decide +kernel))
          (fun _ _ _ _ _ => pg_name (i := 5) nd rfl (Or.inl rfl))
          (fun s1 H1 C1 cl1 fp1 => pts_one (X := inB (cx0 P w K mg base ordN (dB 5) cdv A outer s H E) scFree s1 H1 C1 cl1 fp1) (pt_cmpR (op_eqNil hr.units0)
            (pe_lock (pe_lc (X := inB (cx0 P w K mg base ordN (dB 5) cdv A outer s H E) scFree s1 H1 C1 cl1 fp1) (own := [("other", 6)]) (g := gName 6) (wi := iKeys (tDGet (tVar 1) (tVar 5))) (te := tVar 6) (tt := tTest (tOp (rInN K) (tVar 6) (tVar 2))) rfl nd (pi_keys (pe_dget (Room.un1 hr) (pv 1) (pv 5) (fun _ _ => rfl)))
              (blkOk_by (N := ordN) (sc := relS scFree (defScope s_order_of)) (by decide +kernel)) (fun _ _ _ _ _ => pg_name (i := 6) nd rfl (Or.inl rfl))
              (fun s2 H2 C2 cl2 fp2 => pts_one (X := inB (inB (cx0 P w K mg base ordN (dB 5) cdv A outer s H E) scFree s1 H1 C1 cl1 fp1) _ s2 H2 C2 cl2 fp2) (pt_cmpR (op_inN (Room.un65 hr)) (pv 6) (pv 2) (by with_unfolding_all rfl))) (fun _ _ _ _ _ => pv 6)))
            (pe_lst pa_nil) (nomark _)))
          (fun _ _ _ _ _ => pv 5))
    (pss_cons (ps_if (pt_cmpR (op_eqNil hr.units0) (pv 4) (pe_lst pa_nil) (nomark _)) (pss_one (ps_ret pe_non)) pss_nil)
    (pss_cons (ps_expr (pe_bm PySem.F.plainAttrs_list PySem.F.slot_list_append PySem.F.type_list_append mt_append (pv 3) (pa_cons (pe_ix ix_list (pv 4) pe_int (fun _ _ => rfl)) pa_nil)))
    (pss_one (ps_expr (pe_bm PySem.F.plainAttrs_list PySem.F.slot_list_remove PySem.F.type_list_remove (mt_remN (Room.un65 hr)) (pv 2) (pa_cons (pe_ix ix_list (pv 4) pe_int (fun _ _ => rfl)) pa_nil))))))))
    (pss_one (ps_ret (pv 3))))))), ?_⟩)
  obtain ⟨a, xs, rows, rfl, hS, hR, hl, hnd, hne, q1, q2⟩ := h
  have hsz : sizeLine = 16777216 := rfl
  refine ⟨_, rfl, a, xs, rows, rfl, hS, hR, hl, fun H1 d s1 hd g1 => ?_⟩
  obtain ⟨kvs, ns, h1, h2, h3, h4, h5, h6⟩ := g1.ex
  have hmemAll : ∀ n, n ∈ ns ↔ n ∈ rows.flatten := fun n => (h4 n).trans ⟨fun ⟨r, x, y⟩ => List.mem_flatten.mpr ⟨r, x, y⟩, fun z => by obtain ⟨r, x, y⟩ := List.mem_flatten.mp z; exact ⟨r, x, y⟩⟩
  refine ⟨_, rfl, d, kvs, ns, rfl, h1, h2, fun s hs => ?_, fun L lx0 hL hN0 => ?_⟩
  · obtain ⟨r, x, y⟩ := (h4 s).mp hs
    exact hne r x s y
  rw [sortN_names h3 hmemAll] at hN0
  have hallN : (Vacolo.names rows.flatten).Nodup := (names_rise _).imp fun {x y} w z => by rw [z, tl_irrefl] at w; cases w
  have hallL : (Vacolo.names rows.flatten).length ≤ 1000000 := Nat.le_trans (List.Nodup.length_le_of_subset hallN fun n hn => (names_mem _ n).mp hn) hl
  have hallM : ∀ n ∈ Vacolo.names rows.flatten, InR rows n := fun n hn => (h4 n).mp ((hmemAll n).mpr ((names_mem _ n).mp hn))
  generalize hall : Vacolo.names rows.flatten = all at *
  have sL := same_new (H := H1) (o := .lst lx0) hL
  have hLH : H L = none := Same.fresh s1 hL
  refine ⟨by show 0 ≤ sizeLine; decide, fun F hF => ?_⟩
  have sF := same_new (H := upd H1 L (.lst lx0)) (o := .lst []) hF
  have hFH : H F = none := Same.fresh (s1.trans sL) hF
  have hFL : F ≠ L := fun z => by
    rw [z, upd_same] at hF
    cases hF
  refine ⟨fun m σ Hc => ∃ (left fnd : List (List Nat)) (lx fx : List V) (b4 : Option V), m = left.length ∧ σ = [some (.ref a), some (.ref d), some (.ref L), some (.ref F), b4, none, none] ∧ Hc L = some (.lst lx) ∧ Nms Hc lx left ∧ Hc F = some (.lst fx) ∧ Nms Hc fx fnd ∧
      NB H Hc d (InR rows) (Bef rows) ∧ Same H Hc ∧ left.Nodup ∧ (∀ n ∈ left, n ∈ all) ∧ fnd.length + left.length = all.length ∧ inOrder rows all.length all = (inOrder rows left.length left).map fun l => fnd ++ l,
    ⟨_, all, [], lx0, [], none, rfl, rfl, ?_, ?_, upd_same, trivial, (g1.keep sL).keep sF, (s1.trans sL).trans sF, hallN, fun n hn => hn, by simp, ?_⟩, ?_⟩
  · exact sF _ _ upd_same
  · exact hN0.mono fun c u w => sF _ _ (sL _ _ w)
  · cases inOrder rows all.length all <;> rfl
  rintro m σ Hc ⟨left, fnd, lx, fx, b4, rfl, rfl, hLc, hNl, hFc, hNf, g, k, hln, hsub, hsum, hin⟩
  refine ⟨_, rfl, by show 0 ≤ sizeLine; decide, fun e0 he0 => ?_⟩
  have se0 := same_new (H := Hc) (o := .lst []) he0
  have hlxl := hNl.len
  refine ⟨L, e0, lx, rfl, rfl, SqL.of (se0 _ _ hLc), SqL.of upd_same, _, rfl, ifb (fun c => ?_) fun c => ?_⟩
  · -- a turn
    have hlne : left ≠ [] := fun z => by
      rw [z] at hlxl
      have : lx = [] := List.length_eq_zero_iff.mp hlxl
      rw [this] at c
      cases c
    have hstep := inO_step (rows := rows) hlne
    replace hLc := se0 _ _ hLc
    replace hNl := hNl.mono (fun c u w => se0 _ _ w)
    replace hFc := se0 _ _ hFc
    replace hNf := hNf.mono (fun c u w => se0 _ _ w)
    replace g := g.keep se0
    replace k := k.trans se0
    generalize upd Hc e0 (.lst []) = Ha at *
    refine ⟨fun σ' H2 => ∃ m', m' < left.length ∧ ∃ (left fnd : List (List Nat)) (lx fx : List V) (b4 : Option V), m' = left.length ∧ σ' = [some (.ref a), some (.ref d), some (.ref L), some (.ref F), b4, none, none] ∧ H2 L = some (.lst lx) ∧ Nms H2 lx left ∧ H2 F = some (.lst fx) ∧ Nms H2 fx fnd ∧
      NB H H2 d (InR rows) (Bef rows) ∧ Same H H2 ∧ left.Nodup ∧ (∀ n ∈ left, n ∈ all) ∧ fnd.length + left.length = all.length ∧ inOrder rows all.length all = (inOrder rows left.length left).map fun l => fnd ++ l, fun _ _ z => z, ?_⟩
    -- the free names
    refine ⟨_, rfl, L, rfl, ⟨_, SqL.of hLc⟩, fun D hD => ?_⟩
    refine lc_list (K := K) (a := L) (xs := lx) (fun i Hd => ∃ acc, Hd D = some (.lst acc) ∧ Nms Ha acc ((left.take i).filter (free rows left)) ∧ Same Ha Hd ∧ i ≤ lx.length)
      ⟨[], upd_same, trivial, same_new hD, Nat.zero_le _⟩ (fun i Hd _ ⟨_, _, _, k4, _⟩ => SqL.of (k4 _ _ hLc)) ?_ ?_
    · rintro i y Hd hy ⟨acc, w1, w2, k4, hle⟩
      have hi := (List.getElem?_eq_some_iff.mp hy).1
      obtain ⟨n', s', rfl, v1, v2⟩ := hNl.at hy
      have htk := take_more v1
      have hs'm : s' ∈ left := List.mem_of_getElem? v1
      refine ⟨rfl, ?_⟩
      obtain ⟨kvs, ns, h1, h2, h3, h4, h5, h6⟩ := (g.keep k4).ex
      have hs'n : s' ∈ ns := (h4 s').mpr (hallM s' (hsub s' hs'm))
      obtain ⟨o, o1, o2, o3, ks, ms, o4, o5, o6, o7⟩ := h5 s' hs'n
      have hn'd : Hd n' = some (.tup (vT s')) := k4 _ _ v2
      -- what is left is not blocked, or it is
      have verdict : ∀ (acc2 : List V), acc2.length = (ms.filter fun m => left.contains m).length → acc2.isEmpty = free rows left s' := fun acc2 e => by
        have h0 : acc2.isEmpty = true ↔ free rows left s' = true := by
          rw [free_iff hnd, List.isEmpty_iff, ← List.length_eq_zero_iff, e, List.length_eq_zero_iff, List.filter_eq_nil_iff]
          constructor
          · rintro z ⟨m, z1, z2⟩
            exact z m ((o7 m).mpr z1) (by simpa using z2)
          · intro z m z1 z2
            exact z ⟨m, (o7 m).mp z1, by simpa using z2⟩
        cases q : acc2.isEmpty with
        | true => rw [h0.mp q]
        | false =>
          cases q' : free rows left s' with
          | false => rfl
          | true => rw [h0.mpr q'] at q; cases q
      refine ⟨o, .dT ks, o4, trivial, fun od => ?_⟩
      have nlk : ∀ c u, Hd c = some u → (∀ kv, u ≠ .dT kv) → upd Hd o (.frz od (.dT ks)) c = some u := fun c u w z => by
        rw [upd_ne (ne_of w o4 (z ks))]
        exact w
      have dg : DGet (upd Hd o (.frz od (.dT ks))) d (.ref n') (some (.ref o)) := by
        rw [← o1]
        exact DGet.t ((upd_ne (Ne.symm o3)).trans h1) (nm_key (nlk _ _ hn'd fun kv z => by cases z))
      refine ⟨_, rfl, _, rfl, d, _, rfl, dg, o, od, rfl, .inr ⟨ks, upd_same, fun D2 hD2 => ?_⟩⟩
      generalize hHx : upd Hd o (.frz od (.dT ks)) = Hx at *
      have hox : Hx o = some (.frz od (.dT ks)) := by rw [← hHx]; exact upd_same
      have hD2d : Hd D2 = none := by
        have nz : D2 ≠ o := fun z => by
          rw [z, hox] at hD2
          cases hD2
        rw [← hHx, upd_ne nz] at hD2
        exact hD2
      have hLx : Hx L = some (.lst lx) := nlk _ _ (k4 _ _ hLc) fun kv z => by cases z
      have hNx : Nms Hx lx left := hNl.mono fun c u w => nlk _ _ (k4 _ _ w) fun kv z => by cases z
      have ksm : ks.length = ms.length := by
        have := congrArg List.length o5
        rwa [List.length_map, List.length_map] at this
      have msl : ms.length ≤ 1000000 := Nat.le_trans (List.Nodup.length_le_of_subset o6 fun m hm => by
        obtain ⟨r, z1, k', _, z2⟩ := (o7 m).mp hm
        exact List.mem_flatten.mpr ⟨r, z1, List.mem_of_mem_take z2⟩) hl
      refine lc_it walk_keysT (fun j H5 => ∃ acc2, H5 D2 = some (.lst acc2) ∧ acc2.length = ((ms.take j).filter fun m => left.contains m).length ∧ Same Hx H5)
        ⟨[], upd_same, rfl, same_new hD2⟩ (fun j H5 _ ⟨_, _, _, k5⟩ => k5 _ _ hox) ?_ ?_
      · rintro j x H5 H5' hj ⟨acc2, z1, z2, k5⟩ ⟨rfl, kk, vv, qq, z3, rfl, z4⟩
        have hmj : ∃ m, ms[j]? = some m ∧ kk = nmK m := by
          have e : (ks.map (·.1))[j]? = some kk := by rw [List.getElem?_map, z3]; rfl
          rw [o5, List.getElem?_map] at e
          cases e2 : ms[j]? with
          | none => rw [e2] at e; cases e
          | some m =>
            rw [e2] at e
            exact ⟨m, rfl, (Option.some.inj e).symm⟩
        obtain ⟨m, hm, rfl⟩ := hmj
        rw [nmK_kV] at z4
        have tkm := take_more hm
        have z2l : acc2.length ≤ 1000000 := by
          have h8 : ((ms.take j).filter fun m => left.contains m).length ≤ (ms.take j).length := List.length_filter_le ..
          rw [List.length_take] at h8
          omega
        refine ⟨rfl, _, rfl, _, rfl, qq, L, m, lx, left, rfl, rfl, z4, SqL.of (k5 _ _ hLx), hNx.mono (fun c u w => k5 _ _ w), _, rfl, ?_⟩
        cases hc : left.contains m with
        | true =>
          refine ⟨_, rfl, acc2, z1, by omega, acc2 ++ [.ref qq], upd_same, ?_, fun c u w => ?_⟩
          · rw [tkm, List.filter_append, List.filter_cons_of_pos (by exact hc), List.length_append, List.length_append, z2]
            rfl
          · rw [upd_ne (ne_of_none w hD2)]
            exact k5 _ _ w
        | false =>
          refine ⟨acc2, z1, ?_, k5⟩
          rw [tkm, List.filter_append, List.filter_cons_of_neg (by rw [hc]; exact Bool.false_ne_true), List.filter_nil, List.append_nil]
          exact z2
      · rintro H5 ⟨acc2, z1, z2, k5⟩
        have hallm : ms.take ks.length = ms := by
          rw [ksm]
          exact List.take_of_length_le (Nat.le_refl _)
        rw [hallm] at z2
        have ev := verdict acc2 z2
        refine ⟨k5 _ _ hox, by show 0 ≤ sizeLine; decide, fun e1 he1 => ?_⟩
        have ne1o : e1 ≠ o := fun z => by
          rw [z, upd_same] at he1
          cases he1
        rw [upd_ne ne1o] at he1
        have ne1D : D2 ≠ e1 := ne_of_none z1 he1
        have nD2o : D2 ≠ o := fun z => by
          rw [z, o4] at hD2d
          cases hD2d
        -- the heap behind the test
        have k6 : Same Hd (upd (upd H5 o (.dT ks)) e1 (.lst [])) := fun c u w => by
          have nc1 : c ≠ e1 := by
            intro z
            by_cases zo : c = o
            · exact ne1o (z ▸ zo)
            · have : Hx c = some u := by rw [← hHx, upd_ne zo]; exact w
              have := k5 _ _ this
              rw [z, he1] at this
              cases this
          rw [upd_ne nc1]
          by_cases zo : c = o
          · rw [zo, upd_same, ← o4, ← zo, w]
          · rw [upd_ne zo]
            refine k5 _ _ ?_
            rw [← hHx, upd_ne zo]
            exact w
        refine ⟨D2, e1, acc2, rfl, rfl, SqL.of ?_, SqL.of upd_same, _, rfl, ?_⟩
        · rw [upd_ne ne1D, upd_ne nD2o]
          exact z1
        · rw [ev]
          have w2l : acc.length ≤ 1000000 := by
            have h8 : ((left.take i).filter (free rows left)).length ≤ (left.take i).length := List.length_filter_le ..
            rw [List.length_take] at h8
            have := w2.len
            omega
          cases hf : free rows left s' with
          | true =>
            refine ⟨_, rfl, acc, k6 _ _ w1, by omega, acc ++ [.ref n'], upd_same, ?_, fun c u w => ?_, by omega⟩
            · rw [htk, List.filter_append, List.filter_cons_of_pos (by exact hf)]
              exact w2.app v2
            · rw [upd_ne (ne_of_none w hD)]
              exact k6 _ _ (k4 _ _ w)
          | false =>
            refine ⟨acc, k6 _ _ w1, ?_, k4.trans k6, by omega⟩
            rw [htk, List.filter_append, List.filter_cons_of_neg (by simp [hf]), List.filter_nil, List.append_nil]
            exact w2
    · rintro Hd ⟨acc, w1, w2, k4, _⟩
      have hallt : left.take lx.length = left := by
        rw [hlxl]
        exact List.take_of_length_le (Nat.le_refl _)
      rw [hallt] at w2
      have hDH : H D = none := Same.fresh k hD
      have nDL : ∀ c u, Ha c = some u → c ≠ D := fun c u w => ne_of_none w hD
      have kd := k.trans k4
      have accl := w2.len
      have leftl : left.length ≤ 1000000 := by omega
      have fll : (left.filter (free rows left)).length ≤ left.length := List.length_filter_le ..
      refine ⟨_, rfl, by show 0 ≤ sizeLine; decide, fun e2 he2 => ?_⟩
      have s2 := same_new (H := Hd) (o := .lst []) he2
      refine ⟨D, e2, acc, rfl, rfl, SqL.of (s2 _ _ w1), SqL.of upd_same, _, rfl, ifb (fun z => ?_) fun z => ?_⟩
      · -- none is free
        have z' : acc = [] := List.isEmpty_iff.mp z
        have e0 : left.filter (free rows left) = [] := List.length_eq_zero_iff.mp (by rw [← accl, z']; rfl)
        rw [e0] at hstep
        rw [hstep] at hin
        exact q1 hin _ (kd.trans s2)
      · -- the first free one
        obtain ⟨y0, ar, rfl⟩ : ∃ y0 ar, acc = y0 :: ar := by
          cases acc with
          | nil => cases z
          | cons y0 ar => exact ⟨y0, ar, rfl⟩
        obtain ⟨n0, s0, rfl, v1, v2⟩ := w2.at (i := 0) (x := y0) rfl
        obtain ⟨rest, hfr⟩ : ∃ rest, left.filter (free rows left) = s0 :: rest := by
          cases q : left.filter (free rows left) with
          | nil => rw [q] at v1; cases v1
          | cons b rest =>
            rw [q] at v1
            exact ⟨rest, by rw [Option.some.inj v1]⟩
        rw [hfr] at hstep
        have hs0 : s0 ∈ left := (List.mem_filter.mp (by rw [hfr]; simp : s0 ∈ left.filter (free rows left))).1
        obtain ⟨j, hj, ej⟩ := List.getElem_of_mem hs0
        have ej' : left[j]? = some s0 := by rw [List.getElem?_eq_getElem hj, ej]
        have ksd : Same Ha (upd Hd e2 (.lst [])) := k4.trans s2
        generalize hHe : upd Hd e2 (.lst []) = He at *
        have hFe := ksd _ _ hFc
        have hLe := ksd _ _ hLc
        have hDe := s2 _ _ w1
        have nFD : F ≠ D := nDL _ _ hFc
        have nLD : L ≠ D := nDL _ _ hLc
        refine ⟨_, rfl, .inl ⟨rfl, _, SqL.of hFe⟩, _, rfl, D, _, 0, .ref n0, rfl, rfl, SqL.of hDe, atI_nat (j := 0) rfl, F, fx, .ref n0, rfl, rfl, hFe, ?_, ?_⟩
        · have := hNf.len
          omega
        · have hL1 : upd He F (.lst (fx ++ [.ref n0])) L = some (.lst lx) := (upd_ne (Ne.symm hFL)).trans hLe
          have hD1 : upd He F (.lst (fx ++ [.ref n0])) D = some (.lst (.ref n0 :: ar)) := (upd_ne (Ne.symm nFD)).trans hDe
          have tp1 : ∀ c u, Ha c = some (.tup u) → upd He F (.lst (fx ++ [.ref n0])) c = some (.tup u) := fun c u w => by
            rw [upd_ne (ne_of (ksd _ _ w) hFe (by intro z; cases z))]
            exact ksd _ _ w
          refine ⟨_, rfl, .inl ⟨rfl, _, SqL.of hL1⟩, _, rfl, D, _, 0, .ref n0, rfl, rfl, SqL.of hD1, atI_nat (j := 0) rfl, L, n0, s0, lx, left, j, rfl, rfl, hL1, hNl.mono (fun c u w => tp1 _ _ w), tp1 _ _ v2, ej', fun m hm w => ?_, ?_⟩
          · have := nodup_one hln w ej'
            omega
          · have hfe := filter_erase hln ej'
            have hlen : (left.eraseIdx j).length = left.length - 1 := List.length_eraseIdx_of_lt hj
            have tp2 : ∀ c u, Ha c = some (.tup u) → upd (upd He F (.lst (fx ++ [.ref n0]))) L (.lst (lx.eraseIdx j)) c = some (.tup u) := fun c u w => by
              rw [upd_ne (ne_of (tp1 _ _ w) hL1 (by intro z; cases z))]
              exact tp1 _ _ w
            refine ⟨(left.eraseIdx j).length, by omega, left.eraseIdx j, fnd ++ [s0], lx.eraseIdx j, fx ++ [.ref n0], _, rfl, rfl, upd_same, (hNl.erase j).mono (fun c u w => tp2 _ _ w), ?_, (hNf.app v2).mono (fun c u w => tp2 _ _ w), ?_, fun c u w => ?_, hln.sublist (List.eraseIdx_sublist ..), fun n hn => hsub n (List.mem_of_mem_eraseIdx hn), ?_, ?_⟩
            · rw [upd_ne hFL, upd_same]
            · refine g.keepT fun c kv w => ?_
              have w1' := ksd _ _ w
              rw [upd_ne (fun z => by rw [z, hLe] at w1'; cases w1'), upd_ne (fun z => by rw [z, hFe] at w1'; cases w1')]
              exact w1'
            · have w1' := ksd _ _ (k _ _ w)
              rw [upd_ne (ne_of_none w hLH), upd_ne (ne_of_none w hFH)]
              exact w1'
            · rw [List.length_append, hlen]
              simp only [List.length_cons, List.length_nil]
              have : 0 < left.length := List.length_pos_iff.mpr hlne
              omega
            · rw [hin, hstep]
              dsimp only
              rw [hfe, hlen]
              cases inOrder rows (left.length - 1) (left.eraseIdx j) with
              | none => rfl
              | some l => simp
  · -- all placed
    have z' : lx = [] := by
      cases lx with
      | nil => rfl
      | cons _ _ => cases c
    have e0 : left = [] := List.length_eq_zero_iff.mp (by rw [← hlxl, z']; rfl)
    rw [e0, inO_nil] at hin
    refine ⟨_, rfl, q2 fnd ?_ _ F fx (k.trans se0) hFH (se0 _ _ hFc) (hNf.mono fun c u w => se0 _ _ w)⟩
    rw [hin]
    simp
end SF
end -- S8

section -- S9
set_option Elab.async false
set_option linter.all false
set_option maxRecDepth 100000
set_option maxHeartbeats 8000000
/-! # S9: Clash raised where nothing is handled, and within ask_under -/
namespace SF
open PySem PySem.Spec PyProof.Rows L2
open L2H (RoomH PinOk cxH PMk5 suiteX)
open Vacolo (Loose)
variable {P : Program} {w : World} {K : PySem.W.Frag} {mg : Str → Option Value} {base : Heap}
abbrev CC (K : PySem.W.Frag) : Addr := He.ga K "Clash"
abbrev aCl (K : PySem.W.Frag) : Addr := He.ma K (CC K) "__init__"
theorem clash_run {X : Cx} (T : Txt X.K X.mg) : OexC X.K (CC X.K) ∧ PySem.W.findIn X.K (.ref (CC X.K)) "__init__" = some (some (.ref (aCl X.K))) ∧ PySem.W.typeIn X.K (.ref (aCl X.K)) = some (.type "function") := by
  obtain ⟨a, _, b, c, _⟩ := T.exc "Clash" (by decide +kernel)
  exact ⟨a, b, c⟩
/-- raise Clash(..), nothing handled -/
theorem ps_clashN {X : Cx} {W : WX} {e1 e2 : Expr} {ta : TA} {p pos pos2 : Pos} (hc : X.calm = true) (tk : L2N.Takes X W) (T : Txt X.K X.mg) (hr : Room 2 X.A) (ha : PA X [e1, e2] ta) (hg : Gl X "Clash" := by rfl)
    (he : starEach [e1, e2] X.env = (false, eval e1 X.env) :: starEach [e2] X.env := by rfl) (hpl : (backTo pos (starEach [e2] X.env)).any (·.1) = false := by rfl) :
    PS X (.Raise (some (.Call (.Name "Clash" p) [e1, e2] [] pos)) none pos2) (tErr (CC X.K) "number" "path" W ta) := by
  obtain ⟨a, b, c⟩ := clash_run (X := X) T
  obtain ⟨fd, F, hb, hk⟩ := (ok_Clash_init (P := X.prog) (w := X.w) (base := X.base) T).ex
  have mk := pmk_run (X := X) (CX := CX0) (fd := fd) (p := p) (pos := pos) a b c F.len hb (fun pins σ s H us0 us vs Q I b r q => F.run _ X.stack s H ⟨us, []⟩ us vs Q _ (hr.make (CC X.K) us0 []) (I.env0.make (CC X.K) us0 []) b r q)
    (fun _ _ _ _ _ _ _ z => z.elim) hg (T.glo "Clash" (by decide +kernel)) (pa_up ha) (by decide) he hpl
  refine ps_imp (L2N.ps_raise hc tk mk.pmk) fun D σ H h => ?_
  obtain ⟨Q0, h0, h1⟩ := h
  refine ⟨Q0, h0, fun vs H1 q => ?_⟩
  obtain ⟨u, v, rfl, h2⟩ := h1 vs H1 q
  exact ⟨(by show 2 ≤ 1000; decide), err_made (Q := fun cls d H' => W cls d σ H') h2⟩
/-- Clash's own __init__, whatever is handled -/
theorem clash_any (T : Txt K mg) : ∃ fd, FnA P w K mg base CX0 1 (aCl K) fd ["self", "number", "path"] (spErr (CC K) "number" "path") ∧ Binds K fd ["self", "number", "path"] [] := by
  obtain ⟨fd, F⟩ := dT T defsB (.inr (.inl rfl)) 0 rfl
  have hb : Binds K fd ["self", "number", "path"] [] := bind3 F fun _ _ _ _ _ _ _ _ _ => rfl
  obtain ⟨oc, od, kV, doc, pm, an, cdv, ct, osl, rfl, lk, hcd⟩ := F.ex
  refine ⟨_, fnA_of lk hcd sc_Clash_init (fun vs H Q E h => by obtain ⟨a, x, y, rfl, _⟩ := h; rfl) (fun A outer s H vs Q E p h => ⟨_, pss_cons (ps_ost (pv 0) (pv 1)) (pss_one (ps_ost (pv 0) (pv 2))), ?_⟩), hb⟩
  exact init_body rfl h (T.exc _ (by decide +kernel)).1 (T.noat ("Clash", "number") (by decide +kernel)) (T.noat ("Clash", "path") (by decide +kernel))
end SF
end -- S9

section -- Q1
set_option Elab.async false
set_option linter.all false
set_option maxRecDepth 100000
set_option maxHeartbeats 4000000
/-! # Q1: the found kind, case by case -/
namespace SF
open Vacola (Text Leaf Mode Head Kind Fields)
open Vacolo
/-- a map that may fail, from the left -/
def mapE {A B : Type} (f : A → Except Clash B) : List A → Except Clash (List B)
  | [] => .ok []
  | a :: l => match f a with
    | .error c => .error c
    | .ok b => match mapE f l with
      | .error c => .error c
      | .ok bs => .ok (b :: bs)
theorem mapM_E {A B : Type} (f : A → Except Clash B) : ∀ l : List A, l.mapM f = mapE f l
  | [] => rfl
  | a :: l => by
    rw [List.mapM_cons, mapM_E f l]
    show (f a >>= fun b => mapE f l >>= fun bs => pure (b :: bs)) = (match f a with
      | .error c => .error c
      | .ok b => match mapE f l with
        | .error c => .error c
        | .ok bs => .ok (b :: bs))
    cases f a with
    | error c => rfl
    | ok b => cases mapE f l <;> rfl
theorem mapO {A B : Type} (f : A → Option B) : ∀ l : List A, l.mapM f = match l with
    | [] => some []
    | a :: l => (f a).bind fun b => (l.mapM f).map fun bs => b :: bs
  | [] => rfl
  | a :: l => by
    rw [List.mapM_cons]
    show (f a >>= fun b => l.mapM f >>= fun bs => pure (b :: bs)) = (f a).bind fun b => (l.mapM f).map fun bs => b :: bs
    cases f a <;> cases l.mapM f <;> rfl
def isNum : Loose → Bool
  | .num _ => true
  | _ => false
def isStr : Loose → Bool
  | .str _ => true
  | _ => false
def isRec : Loose → Bool
  | .record _ => true
  | _ => false
def isAlt : Loose → Bool
  | .alt _ _ => true
  | _ => false
theorem numsOf_ok : ∀ zs : List Int, numsOf (zs.map .num) = some zs
  | [] => rfl
  | z :: zs => by
    unfold numsOf
    rw [mapO]
    show (some z).bind _ = _
    have := numsOf_ok zs
    unfold numsOf at this
    simp [this]
theorem strsOf_ok : ∀ zs : List Text, strsOf (zs.map .str) = some zs
  | [] => rfl
  | z :: zs => by
    unfold strsOf
    rw [mapO]
    show (some z).bind _ = _
    have := strsOf_ok zs
    unfold strsOf at this
    simp [this]
theorem recsOf_ok : ∀ zs : List (List (Text × List Loose)), recsOf (zs.map .record) = some zs
  | [] => rfl
  | z :: zs => by
    unfold recsOf
    rw [mapO]
    show (some z).bind _ = _
    have := recsOf_ok zs
    unfold recsOf at this
    simp [this]
theorem altsOf_ok : ∀ zs : List (Text × Loose), altsOf (zs.map fun x => .alt x.1 x.2) = some zs
  | [] => rfl
  | z :: zs => by
    unfold altsOf
    rw [mapO]
    show (some (z.1, z.2)).bind _ = _
    have := altsOf_ok zs
    unfold altsOf at this
    simp [this]
theorem of_none {A : Type} {f : Loose → Option A} : ∀ {l : List Loose} {v : Loose}, v ∈ l → f v = none → l.mapM f = none
  | [], _, h, _ => by cases h
  | a :: l, v, h, hf => by
    rw [mapO]
    rcases List.mem_cons.mp h with rfl | h
    · show (f v).bind _ = none
      rw [hf]
      rfl
    · show (f a).bind _ = none
      rw [of_none h hf]
      cases f a <;> rfl
theorem nums_no {l : List Loose} {v : Loose} (h : v ∈ l) (hv : isNum v = false) : numsOf l = none := of_none h (by cases v <;> first | rfl | cases hv)
theorem strs_no {l : List Loose} {v : Loose} (h : v ∈ l) (hv : isStr v = false) : strsOf l = none := of_none h (by cases v <;> first | rfl | cases hv)
theorem recs_no {l : List Loose} {v : Loose} (h : v ∈ l) (hv : isRec v = false) : recsOf l = none := of_none h (by cases v <;> first | rfl | cases hv)
theorem alts_no {l : List Loose} {v : Loose} (h : v ∈ l) (hv : isAlt v = false) : altsOf l = none := of_none h (by cases v <;> first | rfl | cases hv)
theorem found_num (d : Nat) (zs : List Int) : found (d + 1) (zs.map .num) = .ok (.leaf (numLeaf zs)) := by
  rw [found, numsOf_ok]
theorem found_str (d : Nat) {zs : List Text} (h : zs ≠ []) : found (d + 1) (zs.map .str) = .ok (.leaf (strLeaf zs)) := by
  obtain ⟨z, r, rfl⟩ := List.exists_cons_of_ne_nil h
  rw [found, nums_no (v := .str z) (by simp) rfl, strsOf_ok]
/-- the kinds under the names -/
def kindsE (d : Nat) (sub : Text → List Loose) (all : List Text) : Except Clash (List (Text × Kind)) := mapE (fun n => (under n (found d (sub n))).map fun k => (n, k)) all
def foundR (d : Nat) (rs : List (List (Text × List Loose))) : Except Clash Kind :=
  match kindsE d (fun n => rs.flatMap (occurrences n)) (names (rs.flatMap fun r => r.map fun x => x.1)) with
  | .error c => .error c
  | .ok kinds => match inOrder (rs.map fun r => r.map fun x => x.1) (names (rs.flatMap fun r => r.map fun x => x.1)).length (names (rs.flatMap fun r => r.map fun x => x.1)) with
    | none => .error { number := 2, path := [] }
    | some order => .ok (.group false (numbered (order.map fun n => (n, modeOf (rs.map fun r => (occurrences n r).length), ((kinds.find? fun x => x.1 == n).map fun x => x.2).getD (.leaf .bit)))))
theorem found_rec (d : Nat) {rs : List (List (Text × List Loose))} (h : rs ≠ []) : found (d + 1) (rs.map .record) = foundR d rs := by
  obtain ⟨z, r, rfl⟩ := List.exists_cons_of_ne_nil h
  rw [found, nums_no (v := .record z) (by simp) rfl, strs_no (v := .record z) (by simp) rfl, recsOf_ok]
  unfold foundR kindsE
  rw [← mapM_E]
  dsimp only
  generalize (List.mapM _ _ : Except Clash (List (Text × Kind))) = x
  cases x with
  | error c => rfl
  | ok kinds => rfl
def foundA (d : Nat) (as : List (Text × Loose)) : Except Clash Kind :=
  match kindsE d (fun n => (as.filter fun x => x.1 == n).map fun x => x.2) (names (as.map fun x => x.1)) with
  | .error c => .error c
  | .ok kinds => .ok (.group true (numbered (kinds.map fun x => (x.1, .one, x.2))))
theorem found_alt (d : Nat) {as : List (Text × Loose)} (h : as ≠ []) : found (d + 1) (as.map fun x => .alt x.1 x.2) = foundA d as := by
  obtain ⟨z, r, rfl⟩ := List.exists_cons_of_ne_nil h
  rw [found, nums_no (v := .alt z.1 z.2) (by simp) rfl, strs_no (v := .alt z.1 z.2) (by simp) rfl, recs_no (v := .alt z.1 z.2) (by simp) rfl, altsOf_ok]
  unfold foundA kindsE
  rw [← mapM_E]
  dsimp only
  generalize (List.mapM _ _ : Except Clash (List (Text × Kind))) = x
  cases x with
  | error c => rfl
  | ok kinds => rfl
/-- the kind's number -/
def kd : Loose → Nat
  | .num _ => 0
  | .str _ => 1
  | .record _ => 2
  | .alt _ _ => 3
theorem found_mix (d : Nat) {l : List Loose} {v u : Loose} (hv : v ∈ l) (hu : u ∈ l) (h : kd v ≠ kd u) : found (d + 1) l = .error { number := 1, path := [] } := by
  have n1 : numsOf l = none := by
    cases e : isNum v with
    | false => exact nums_no hv e
    | true =>
      cases e2 : isNum u with
      | false => exact nums_no hu e2
      | true => cases v <;> cases u <;> simp [isNum, kd] at *
  have n2 : strsOf l = none := by
    cases e : isStr v with
    | false => exact strs_no hv e
    | true =>
      cases e2 : isStr u with
      | false => exact strs_no hu e2
      | true => cases v <;> cases u <;> simp [isStr, kd] at *
  have n3 : recsOf l = none := by
    cases e : isRec v with
    | false => exact recs_no hv e
    | true =>
      cases e2 : isRec u with
      | false => exact recs_no hu e2
      | true => cases v <;> cases u <;> simp [isRec, kd] at *
  have n4 : altsOf l = none := by
    cases e : isAlt v with
    | false => exact alts_no hv e
    | true =>
      cases e2 : isAlt u with
      | false => exact alts_no hu e2
      | true => cases v <;> cases u <;> simp [isAlt, kd] at *
  rw [found, n1, n2, n3, n4]
/-- values of one kind -/
theorem one_kind {l : List Loose} {k : Nat} (h : ∀ v ∈ l, kd v = k) : (k = 0 → ∃ zs : List Int, l = zs.map .num) ∧ (k = 1 → ∃ zs : List Text, l = zs.map .str) ∧ (k = 2 → ∃ rs : List (List (Text × List Loose)), l = rs.map .record) ∧ (k = 3 → ∃ as : List (Text × Loose), l = as.map fun x => .alt x.1 x.2) := by
  induction l with
  | nil => exact ⟨fun _ => ⟨[], rfl⟩, fun _ => ⟨[], rfl⟩, fun _ => ⟨[], rfl⟩, fun _ => ⟨[], rfl⟩⟩
  | cons v l ih =>
    obtain ⟨i0, i1, i2, i3⟩ := ih fun u hu => h u (List.mem_cons_of_mem _ hu)
    have hv := h v (by simp)
    refine ⟨fun e => ?_, fun e => ?_, fun e => ?_, fun e => ?_⟩
    · obtain ⟨zs, rfl⟩ := i0 e
      cases v <;> simp [kd] at hv <;> first | omega | exact ⟨_ :: zs, rfl⟩
    · obtain ⟨zs, rfl⟩ := i1 e
      cases v <;> simp [kd] at hv <;> first | omega | exact ⟨_ :: zs, rfl⟩
    · obtain ⟨zs, rfl⟩ := i2 e
      cases v <;> simp [kd] at hv <;> first | omega | exact ⟨_ :: zs, rfl⟩
    · obtain ⟨zs, rfl⟩ := i3 e
      cases v with
      | alt n x => exact ⟨(n, x) :: zs, rfl⟩
      | _ => simp [kd] at hv; omega
end SF
end -- Q1

section -- Q2
set_option Elab.async false
set_option linter.all false
set_option maxRecDepth 100000
set_option maxHeartbeats 4000000
/-! # Q2: groups of values: what stands under the names, weights -/
namespace SF
open Vacola (Text Leaf Mode Head Kind Fields)
open Vacolo
/-- how much stands in a value -/
def wt : Nat → Loose → Nat
  | 0, _ => 1
  | d + 1, v => match v with
    | .num _ => 1
    | .str _ => 1
    | .record fs => 1 + (fs.map fun e => 1 + (e.2.map (wt d)).sum).sum
    | .alt _ u => 1 + wt d u
abbrev wts (d : Nat) (l : List Loose) : Nat := (l.map (wt d)).sum
theorem wt_pos (d : Nat) (v : Loose) : 1 ≤ wt d v := by
  cases d with
  | zero => exact Nat.le_refl _
  | succ d => cases v <;> simp [wt] <;> omega
theorem wts_len (d : Nat) (l : List Loose) : l.length ≤ wts d l := by
  induction l with
  | nil => exact Nat.le_refl _
  | cons v l ih =>
    have := wt_pos d v
    show l.length + 1 ≤ wt d v + wts d l
    omega
theorem wts_app (d : Nat) (a b : List Loose) : wts d (a ++ b) = wts d a + wts d b := by
  unfold wts
  rw [List.map_append, List.sum_append]
def wtE (d : Nat) (es : List (List Nat × List Loose)) : Nat := (es.map fun e => 1 + wts d e.2).sum
theorem wtE_app (d : Nat) (a b : List (List Nat × List Loose)) : wtE d (a ++ b) = wtE d a + wtE d b := by
  unfold wtE
  rw [List.map_append, List.sum_append]
theorem wtE_of (d : Nat) (v : Loose) : wtE d (entsOf v) ≤ wt (d + 1) v := by
  cases v with
  | num z => simp [entsOf, wtE, wt]
  | str s => simp [entsOf, wtE, wt]
  | record fs => show wtE d fs ≤ 1 + wtE d fs; omega
  | alt n u => simp [entsOf, wtE, wt, wts]
theorem wtE_ents (d : Nat) (l : List Loose) : wtE d (ents l) ≤ wts (d + 1) l := by
  induction l with
  | nil => exact Nat.le_refl _
  | cons v l ih =>
    have h1 : wtE d (ents (v :: l)) = wtE d (entsOf v) + wtE d (ents l) := wtE_app d (entsOf v) (ents l)
    have h2 := wtE_of d v
    have h3 : wts (d + 1) (v :: l) = wt (d + 1) v + wts (d + 1) l := rfl
    omega
theorem many_wt (d : Nat) (es : List (List Nat × List Loose)) : many es ≤ wtE d es := by
  induction es with
  | nil => exact Nat.le_refl _
  | cons e es ih =>
    have := wts_len d e.2
    show (e.2.length + 1) + many es ≤ (1 + wts d e.2) + wtE d es
    omega
theorem occ_wt (d : Nat) (n : List Nat) (es : List (List Nat × List Loose)) : wts d (occ n es) ≤ wtE d es := by
  induction es with
  | nil => exact Nat.le_refl _
  | cons e es ih =>
    have h1 : occ n (e :: es) = occ n [e] ++ occ n es := occ_app n [e] es
    have h2 : wtE d (e :: es) = (1 + wts d e.2) + wtE d es := rfl
    rw [h1, wts_app, occ_one, h2]
    by_cases c : e.1 = n
    · rw [if_pos c]
      omega
    · rw [if_neg c]
      show 0 + _ ≤ _
      omega
/-- what is asked of values -/
structure AskAt (n : Nat) (vals : List Loose) : Prop where
  ne : vals ≠ []
  wf : ∀ v ∈ vals, wf n v
  wt : wts n vals ≤ 500000
theorem ents_wf {n : Nat} {vals : List Loose} (h : ∀ v ∈ vals, wf (n + 1) v) : ∀ e ∈ ents vals, Vacola.goodName e.1 = true ∧ e.2 ≠ [] ∧ ∀ u ∈ e.2, wf n u := by
  intro e he
  obtain ⟨v, hv, hev⟩ := List.mem_flatMap.mp he
  have hw := h v hv
  cases v with
  | num z => cases hev
  | str s => cases hev
  | record fs => exact (wf_rec.mp hw).2 e hev
  | alt m u =>
    have : e = (m, [u]) := List.mem_singleton.mp hev
    subst this
    exact ⟨(wf_alt.mp hw).1, by simp, fun x hx => by rw [List.mem_singleton.mp hx]; exact (wf_alt.mp hw).2⟩
theorem AskAt.sub {n : Nat} {vals : List Loose} (h : AskAt (n + 1) vals) {m : List Nat} (hm : m ∈ (ents vals).map Prod.fst) : AskAt n (occ m (ents vals)) := by
  have hw := ents_wf h.wf
  refine ⟨fun z => ?_, fun v hv => ?_, ?_⟩
  · obtain ⟨e, he, rfl⟩ := List.mem_map.mp hm
    obtain ⟨u, r, hu⟩ := List.exists_cons_of_ne_nil (hw e he).2.1
    have : u ∈ occ e.1 (ents vals) := List.mem_flatMap.mpr ⟨e, List.mem_filter.mpr ⟨he, by simp⟩, by rw [hu]; simp⟩
    rw [z] at this
    cases this
  · obtain ⟨e, he, hv⟩ := List.mem_flatMap.mp hv
    exact (hw e (List.mem_filter.mp he).1).2.2 v hv
  · have h1 := occ_wt n m (ents vals)
    have h2 := wtE_ents n vals
    have h3 := h.wt
    omega
theorem AskAt.many {n : Nat} {vals : List Loose} (h : AskAt (n + 1) vals) : many (ents vals) ≤ 500000 := by
  have h1 := many_wt n (ents vals)
  have h2 := wtE_ents n vals
  have h3 := h.wt
  omega
theorem AskAt.len {n : Nat} {vals : List Loose} (h : AskAt n vals) : vals.length ≤ 500000 := Nat.le_trans (wts_len n vals) h.wt
/-! ### the names' values -/
theorem occ_rec {fs : List (List Nat × List Loose)} (h : (fs.map Prod.fst).Nodup) (n : List Nat) : occ n fs = occurrences n fs := by
  induction fs with
  | nil => rfl
  | cons e fs ih =>
    have h1 : occ n (e :: fs) = occ n [e] ++ occ n fs := occ_app n [e] fs
    obtain ⟨h2, h3⟩ := List.nodup_cons.mp (show (e.1 :: fs.map Prod.fst).Nodup from h)
    rw [h1, occ_one]
    unfold occurrences at ih ⊢
    by_cases c : e.1 = n
    · rw [if_pos c, List.find?_cons_of_pos (by simpa using c), occ_out (c ▸ h2)]
      simp
    · rw [if_neg c, List.find?_cons_of_neg (by simpa using c), ← ih h3]
      rfl
theorem ents_rec (rs : List (List (List Nat × List Loose))) : ents (rs.map .record) = rs.flatten := by
  unfold ents
  rw [List.flatMap_def, List.map_map]
  exact congrArg List.flatten (List.map_id rs)
theorem ents_alt (as : List (List Nat × Loose)) : ents (as.map fun x => .alt x.1 x.2) = as.map fun x => (x.1, [x.2]) := by
  induction as with
  | nil => rfl
  | cons a as ih =>
    show entsOf (.alt a.1 a.2) ++ ents (as.map fun x => .alt x.1 x.2) = _
    rw [ih]
    rfl
theorem occ_recs {rs : List (List (List Nat × List Loose))} (h : ∀ r ∈ rs, (r.map Prod.fst).Nodup) (n : List Nat) : occ n (ents (rs.map .record)) = rs.flatMap (occurrences n) := by
  rw [ents_rec]
  induction rs with
  | nil => rfl
  | cons r rs ih =>
    show occ n (r ++ rs.flatten) = occurrences n r ++ rs.flatMap (occurrences n)
    rw [occ_app, occ_rec (h r (by simp)), ih fun x hx => h x (List.mem_cons_of_mem _ hx)]
theorem occ_alts (as : List (List Nat × Loose)) (n : List Nat) : occ n (ents (as.map fun x => .alt x.1 x.2)) = (as.filter fun x => x.1 == n).map fun x => x.2 := by
  rw [ents_alt]
  induction as with
  | nil => rfl
  | cons a as ih =>
    have h1 : occ n ((a.1, [a.2]) :: as.map fun x => (x.1, [x.2])) = occ n [(a.1, [a.2])] ++ occ n (as.map fun x => (x.1, [x.2])) := occ_app n [_] _
    rw [List.map_cons, h1, occ_one, ih]
    by_cases c : a.1 = n
    · rw [if_pos c, List.filter_cons_of_pos (by simpa using c)]
      rfl
    · rw [if_neg c, List.filter_cons_of_neg (by simpa using c)]
      rfl
theorem names_recs (rs : List (List (List Nat × List Loose))) : (ents (rs.map .record)).map Prod.fst = rs.flatMap fun r => r.map fun x => x.1 := by
  rw [ents_rec]
  induction rs with
  | nil => rfl
  | cons r rs ih =>
    show (r ++ rs.flatten).map Prod.fst = _
    rw [List.map_append, ih]
    rfl
theorem names_recs2 (rs : List (List (List Nat × List Loose))) : (ents (rs.map .record)).map Prod.fst = (namesOf rs).flatten := by
  rw [names_recs, List.flatMap_def]
theorem names_alts (as : List (List Nat × Loose)) : (ents (as.map fun x => .alt x.1 x.2)).map Prod.fst = as.map fun x => x.1 := by
  rw [ents_alt, List.map_map]
  rfl
abbrev subs (d : Nat) (vals : List Loose) : Except Clash (List (Text × Kind)) := kindsE d (fun n => occ n (ents vals)) (names ((ents vals).map Prod.fst))
theorem found_recG {d : Nat} {rs : List (List (Text × List Loose))} (h : rs ≠ []) (hn : ∀ r ∈ rs, (r.map Prod.fst).Nodup) : found (d + 1) (rs.map .record) = match subs d (rs.map .record) with
    | .error c => .error c
    | .ok kinds => match inOrder (namesOf rs) (names (namesOf rs).flatten).length (names (namesOf rs).flatten) with
      | none => .error { number := 2, path := [] }
      | some order => .ok (.group false (numbered (order.map fun n => (n, modeOf (rs.map fun r => (occurrences n r).length), ((kinds.find? fun x => x.1 == n).map fun x => x.2).getD (.leaf .bit))))) := by
  rw [found_rec d h]
  unfold foundR subs
  have e1 : (fun n => occ n (ents (rs.map Loose.record))) = fun n => rs.flatMap (occurrences n) := funext fun n => occ_recs hn n
  rw [e1, names_recs]
  have e2 : (namesOf rs).flatten = rs.flatMap fun r => r.map fun x => x.1 := by rw [← names_recs2, names_recs]
  rw [e2]
  all_goals rfl
theorem found_altG {d : Nat} {as : List (Text × Loose)} (h : as ≠ []) : found (d + 1) (as.map fun x => .alt x.1 x.2) = match subs d (as.map fun x => .alt x.1 x.2) with
    | .error c => .error c
    | .ok kinds => .ok (.group true (numbered (kinds.map fun x => (x.1, .one, x.2)))) := by
  rw [found_alt d h]
  unfold foundA subs
  have e1 : (fun n => occ n (ents (as.map fun x => Loose.alt x.1 x.2))) = fun n => (as.filter fun x => x.1 == n).map fun x => x.2 := funext fun n => occ_alts as n
  rw [e1, names_alts]
  all_goals rfl
theorem mapE_ok {A B : Type} {f : A → Except Clash B} : ∀ {l : List A}, (∀ a ∈ l, ∃ b, f a = .ok b) → ∃ bs, mapE f l = .ok bs
  | [], _ => ⟨[], rfl⟩
  | a :: l, h => by
    obtain ⟨b, hb⟩ := h a (by simp)
    obtain ⟨bs, hbs⟩ := mapE_ok (l := l) fun x hx => h x (List.mem_cons_of_mem _ hx)
    exact ⟨b :: bs, by rw [mapE, hb]; dsimp only; rw [hbs]⟩
theorem mapE_err {A B : Type} {f : A → Except Clash B} {c : Clash} : ∀ {l : List A} {i : Nat} {a : A}, l[i]? = some a → (∀ x ∈ l.take i, ∃ b, f x = .ok b) → f a = .error c → mapE f l = .error c
  | [], _, _, h, _, _ => by simp at h
  | x :: l, 0, a, h, _, e => by
    have : x = a := Option.some.inj h
    rw [mapE, this, e]
  | x :: l, i + 1, a, h, hk, e => by
    obtain ⟨b, hb⟩ := hk x (by simp)
    have := mapE_err (l := l) (i := i) (show l[i]? = some a from h) (fun y hy => hk y (by simp [hy])) e
    rw [mapE, hb]
    dsimp only
    rw [this]
end SF
namespace SF
open Vacola (Text Leaf Mode Head Kind Fields)
open Vacolo
theorem mapE_of {A B : Type} {f : A → Except Clash B} {c : Clash} : ∀ {l : List A}, mapE f l = .error c → ∃ a ∈ l, f a = .error c
  | [], h => by cases h
  | a :: l, h => by
    rw [mapE] at h
    cases e : f a with
    | error c' =>
      rw [e] at h
      cases h
      exact ⟨a, by simp, e⟩
    | ok b =>
      rw [e] at h
      dsimp only at h
      cases e2 : mapE f l with
      | error c' =>
        rw [e2] at h
        cases h
        obtain ⟨x, hx, q⟩ := mapE_of e2
        exact ⟨x, List.mem_cons_of_mem _ hx, q⟩
      | ok bs =>
        rw [e2] at h
        cases h
theorem under_err {n : Text} {x : Except Clash Kind} {c : Clash} (h : (under n x).map (fun k => (n, k)) = .error c) : ∃ c', x = .error c' ∧ c = { c' with path := n :: c'.path } := by
  cases x with
  | ok k => cases h
  | error c' =>
    cases h
    exact ⟨c', rfl, rfl⟩
theorem kinds_path {d : Nat} {sub : Text → List Loose} {all : List Text} {c : Clash} (hd : ∀ l c, found d l = .error c → c.path.length ≤ d) (h : kindsE d sub all = .error c) : c.path.length ≤ d + 1 := by
  obtain ⟨n, _, q⟩ := mapE_of h
  obtain ⟨c', e, rfl⟩ := under_err q
  have := hd _ _ e
  simp
  exact this
/-- the least case of a list of values -/
theorem found_cases (vals : List Loose) : (∃ zs : List Int, vals = zs.map .num) ∨ (∃ zs : List Text, zs ≠ [] ∧ vals = zs.map .str) ∨ (∃ rs : List (List (Text × List Loose)), rs ≠ [] ∧ vals = rs.map .record) ∨ (∃ as : List (Text × Loose), as ≠ [] ∧ vals = as.map fun x => .alt x.1 x.2) ∨ ∃ v u, v ∈ vals ∧ u ∈ vals ∧ kd v ≠ kd u := by
  cases hv : vals with
  | nil => exact .inl ⟨[], rfl⟩
  | cons v l =>
    rw [← hv]
    have hm : v ∈ vals := by rw [hv]; simp
    by_cases h : ∀ u ∈ vals, kd u = kd v
    · obtain ⟨a, b, c, d⟩ := one_kind h
      have ne : vals ≠ [] := by rw [hv]; simp
      cases v with
      | num z => exact .inl (a rfl)
      | str z =>
        obtain ⟨zs, e⟩ := b rfl
        exact .inr (.inl ⟨zs, fun z => ne (by rw [e, z]; rfl), e⟩)
      | record z =>
        obtain ⟨zs, e⟩ := c rfl
        exact .inr (.inr (.inl ⟨zs, fun z => ne (by rw [e, z]; rfl), e⟩))
      | alt n z =>
        obtain ⟨zs, e⟩ := d rfl
        exact .inr (.inr (.inr (.inl ⟨zs, fun z => ne (by rw [e, z]; rfl), e⟩)))
    · have : ∃ u, u ∈ vals ∧ kd u ≠ kd v := Classical.byContradiction fun z => h fun u hu => Classical.byContradiction fun w => z ⟨u, hu, w⟩
      obtain ⟨u, h1, h2⟩ := this
      exact .inr (.inr (.inr (.inr ⟨u, v, h1, hm, h2⟩)))
theorem found_path : ∀ (d : Nat) (l : List Loose) (c : Clash), found d l = .error c → c.path.length ≤ d
  | 0, l, c, h => by
    rw [found] at h
    cases h
    exact Nat.le_refl _
  | d + 1, l, c, h => by
    rcases found_cases l with ⟨zs, rfl⟩ | ⟨zs, hz, rfl⟩ | ⟨rs, hr, rfl⟩ | ⟨as, ha, rfl⟩ | ⟨v, u, hv, hu, hne⟩
    · rw [found_num] at h
      cases h
    · rw [found_str _ hz] at h
      cases h
    · rw [found_rec _ hr] at h
      unfold foundR at h
      cases e : kindsE d (fun n => rs.flatMap (occurrences n)) (names (rs.flatMap fun r => r.map fun x => x.1)) with
      | error c' =>
        rw [e] at h
        cases h
        exact kinds_path (found_path d) e
      | ok ks =>
        rw [e] at h
        dsimp only at h
        split at h
        · cases h
          exact Nat.zero_le _
        · cases h
    · rw [found_alt _ ha] at h
      unfold foundA at h
      cases e : kindsE d (fun n => (as.filter fun x => x.1 == n).map fun x => x.2) (names (as.map fun x => x.1)) with
      | error c' =>
        rw [e] at h
        cases h
        exact kinds_path (found_path d) e
      | ok ks =>
        rw [e] at h
        cases h
    · rw [found_mix _ hv hu hne] at h
      cases h
      exact Nat.zero_le _
end SF
namespace SF
open Vacola (Text Leaf Mode Head Kind Fields)
open Vacolo
theorem wf_nd {n : Nat} {rs : List (List (Text × List Loose))} (h : ∀ v ∈ rs.map Loose.record, wf n v) : ∀ r ∈ rs, (r.map Prod.fst).Nodup := fun r hr => by
  have := h _ (List.mem_map.mpr ⟨r, hr, rfl⟩)
  cases n with
  | zero => exact this.elim
  | succ n => exact (wf_rec.mp this).1
theorem wf_grp {n : Nat} {v : Loose} (h : wf n v) (hg : isG v = true) : ∃ m, n = m + 1 := by
  cases n with
  | succ m => exact ⟨m, rfl⟩
  | zero =>
    cases v with
    | num z => cases hg
    | str z => cases hg
    | record fs => exact (show False from by unfold wf at h; exact h).elim
    | alt m u => exact (show False from by unfold wf at h; exact h).elim
/-- values of one kind, groups -/
theorem grp_case {n : Nat} {vals : List Loose} {v0 : Loose} (hm : v0 ∈ vals) (h : ∀ u ∈ vals, kd u = kd v0) (hw : ∀ v ∈ vals, wf n v) (hg : isG v0 = true) :
    (∀ v ∈ vals, isG v = true) ∧ ∀ d c, subs d vals = .error c → found (d + 1) vals = .error c := by
  obtain ⟨_, _, hr, ha⟩ := one_kind h
  have ne : vals ≠ [] := fun z => by rw [z] at hm; cases hm
  cases v0 with
  | num z => cases hg
  | str z => cases hg
  | record fs =>
    obtain ⟨rs, rfl⟩ := hr rfl
    refine ⟨fun v hv => ?_, fun d c hc => ?_⟩
    · obtain ⟨r, _, rfl⟩ := List.mem_map.mp hv
      rfl
    · rw [found_recG (fun z => ne (by rw [z]; rfl)) (wf_nd hw), hc]
  | alt m u =>
    obtain ⟨as, rfl⟩ := ha rfl
    refine ⟨fun v hv => ?_, fun d c hc => ?_⟩
    · obtain ⟨r, _, rfl⟩ := List.mem_map.mp hv
      rfl
    · rw [found_altG (fun z => ne (by rw [z]; rfl)), hc]
end SF
namespace SF
open Vacolo
theorem len_in {A : Type} : ∀ {l : List (List A)} {x : List A}, x ∈ l → x.length ≤ l.flatten.length
  | [], _, h => by cases h
  | y :: l, x, h => by
    rw [List.flatten_cons, List.length_append]
    rcases List.mem_cons.mp h with rfl | h
    · omega
    · have := len_in h
      omega
theorem AskAt.rows {n : Nat} {rs : List (List (List Nat × List Loose))} (h : AskAt n (rs.map .record)) : rs.flatten.length ≤ 500000 := by
  obtain ⟨r, rr, e⟩ := List.exists_cons_of_ne_nil (fun z => h.ne (by rw [z]; rfl) : rs ≠ [])
  obtain ⟨m, rfl⟩ := wf_grp (h.wf (.record r) (by rw [e]; simp)) rfl
  have := h.many
  rw [ents_rec] at this
  have := many_len rs.flatten
  omega
theorem names_good {n : Nat} {vals : List Loose} (h : ∀ v ∈ vals, wf n v) : ∀ e ∈ ents vals, Vacola.goodName e.1 = true := by
  cases n with
  | succ n => exact fun e he => (ents_wf h e he).1
  | zero =>
    intro e he
    obtain ⟨v, hv, hev⟩ := List.mem_flatMap.mp he
    have hw := h v hv
    cases v with
    | num z => cases hev
    | str z => cases hev
    | record fs => exact (show False from by unfold wf at hw; exact hw).elim
    | alt m u => exact (show False from by unfold wf at hw; exact hw).elim
end SF
end -- Q2

section -- Q3
set_option Elab.async false
set_option linter.all false
set_option maxRecDepth 100000
set_option maxHeartbeats 4000000
/-! # Q3: a kind's text and leaves, piece by piece -/
namespace SF
open Vacola (Text Leaf Mode Head Kind Fields showKind showFields showHead showDefault showMode showLeaf leavesKind leavesFields decimal)
open Vacolo
theorem fields_snoc (h : Head × Kind) : ∀ hs : List (Head × Kind), showFields (fieldsOf (hs ++ [h])) = showFields (fieldsOf hs) ++ ((if hs = [] then [] else [59]) ++ (showHead h.1 ++ (showKind h.2 ++ showDefault h.1)))
  | [] => by
    show showFields (.cons h.1 h.2 .nil) = showFields .nil ++ _
    rw [showFields, showFields]
    simp
  | a :: r => by
    have ih := fields_snoc h r
    show showFields (.cons a.1 a.2 (fieldsOf (r ++ [h]))) = showFields (.cons a.1 a.2 (fieldsOf r)) ++ _
    cases r with
    | nil =>
      show showFields (.cons a.1 a.2 (.cons h.1 h.2 .nil)) = showFields (.cons a.1 a.2 .nil) ++ _
      simp [showFields]
    | cons b r =>
      have e : fieldsOf (b :: r ++ [h]) = .cons b.1 b.2 (fieldsOf (r ++ [h])) := rfl
      have e2 : fieldsOf (b :: r) = .cons b.1 b.2 (fieldsOf r) := rfl
      rw [e, e2] at ih ⊢
      have r1 : ∀ F : Fields, showFields (.cons a.1 a.2 (.cons b.1 b.2 F)) = showHead a.1 ++ (showKind a.2 ++ (showDefault a.1 ++ 59 :: showFields (.cons b.1 b.2 F))) := fun F => by rw [showFields]
      rw [r1, r1, ih]
      simp
theorem leaves_snoc (h : Head × Kind) : ∀ hs : List (Head × Kind), leavesFields (fieldsOf (hs ++ [h])) = leavesFields (fieldsOf hs) + leavesKind h.2
  | [] => by
    show leavesFields (.cons h.1 h.2 .nil) = leavesFields .nil + _
    simp [leavesFields]
  | a :: r => by
    have ih := leaves_snoc h r
    show leavesFields (.cons a.1 a.2 (fieldsOf (r ++ [h]))) = leavesFields (.cons a.1 a.2 (fieldsOf r)) + _
    rw [leavesFields, leavesFields, ih]
    omega
abbrev ft (l : List (Text × Mode × Kind)) : Text := showFields (numbered l)
abbrev lv (l : List (Text × Mode × Kind)) : Nat := leavesFields (numbered l)
theorem numbered_snoc (l : List (Text × Mode × Kind)) (x : Text × Mode × Kind) : ∃ h : Head, numbered (l ++ [x]) = fieldsOf ((l.zipIdx.map fun x => (({ number := x.2 + 1, name := x.1.1, mode := x.1.2.1, dflt := none } : Head), x.1.2.2)) ++ [(h, x.2.2)]) ∧ h = { number := l.length + 1, name := x.1, mode := x.2.1, dflt := none } := by
  refine ⟨_, ?_, rfl⟩
  unfold numbered
  rw [List.zipIdx_append, List.map_append]
  simp
theorem ft_snoc (l : List (Text × Mode × Kind)) (x : Text × Mode × Kind) : ft (l ++ [x]) = ft l ++ ((if l = [] then [] else [59]) ++ (decimal (l.length + 1) ++ (x.1 ++ (showMode x.2.1 :: showKind x.2.2)))) := by
  obtain ⟨h, e, rfl⟩ := numbered_snoc l x
  unfold ft
  rw [e, fields_snoc]
  have : ((l.zipIdx.map fun x => (({ number := x.2 + 1, name := x.1.1, mode := x.1.2.1, dflt := none } : Head), x.1.2.2)) = []) ↔ l = [] := by
    cases l <;> simp
  have e2 : showFields (fieldsOf (l.zipIdx.map fun x => (({ number := x.2 + 1, name := x.1.1, mode := x.1.2.1, dflt := none } : Head), x.1.2.2))) = showFields (numbered l) := rfl
  rw [e2]
  simp only [this]
  simp [showHead, showDefault]
theorem lv_snoc (l : List (Text × Mode × Kind)) (x : Text × Mode × Kind) : lv (l ++ [x]) = lv l + leavesKind x.2.2 := by
  obtain ⟨h, e, _⟩ := numbered_snoc l x
  unfold lv
  rw [e, leaves_snoc]
  rfl
theorem ft_nil : ft [] = [] := by
  show showFields .nil = []
  rw [showFields]
theorem lv_nil : lv [] = 0 := by
  show leavesFields .nil = 0
  rw [leavesFields]
/-! ### modes -/
theorem cnt_occurrences {n : Text} {r : List (Text × List Loose)} (h : (r.map Prod.fst).Nodup) : cnt n r = ((occurrences n r).length : Nat) := by
  rw [← occ_rec h n]
  exact cnt_occ n r
end SF
namespace SF
open Vacola (Text Leaf Mode Head Kind Fields showKind showFields showHead showDefault showMode showLeaf leavesKind leavesFields decimal digitsBefore)
open Vacolo
theorem digits_len : ∀ (f k n : Nat) (acc : Text), n < 10 ^ (k + 1) → (digitsBefore f n acc).length ≤ k + 1 + acc.length
  | 0, k, n, acc, _ => by
    rw [digitsBefore]
    omega
  | f + 1, k, n, acc, h => by
    rw [digitsBefore]
    split
    · simp only [List.length_cons]
      omega
    · cases k with
      | zero =>
        have : n < 10 := by simpa using h
        omega
      | succ k =>
        have h2 : n / 10 < 10 ^ (k + 1) := by
          rw [Nat.pow_succ] at h
          omega
        have := digits_len f k (n / 10) ((48 + n % 10) :: acc) h2
        simp only [List.length_cons] at this
        omega
theorem decimal_len {n : Nat} (h : n < 10000000) : (decimal n).length ≤ 7 := by
  have := digits_len (n + 1) 6 n [] h
  simpa [decimal] using this
/-- the kind under a name -/
def kindIn (ks : List (Text × Kind)) (m : Text) : Kind := ((ks.find? fun x => x.1 == m).map fun x => x.2).getD (.leaf .bit)
theorem mapE_cons {A B : Type} {f : A → Except Clash B} {a : A} {l : List A} {bs : List B} (h : mapE f (a :: l) = .ok bs) : ∃ b bs', f a = .ok b ∧ mapE f l = .ok bs' ∧ bs = b :: bs' := by
  rw [mapE] at h
  cases e : f a with
  | error c =>
    rw [e] at h
    cases h
  | ok b =>
    rw [e] at h
    dsimp only at h
    cases e2 : mapE f l with
    | error c =>
      rw [e2] at h
      cases h
    | ok bs' =>
      rw [e2] at h
      cases h
      exact ⟨b, bs', rfl, rfl, rfl⟩
theorem kinds_in {d : Nat} {sub : Text → List Loose} : ∀ {all : List Text} {ks : List (Text × Kind)}, kindsE d sub all = .ok ks → (∀ m ∈ all, found d (sub m) = .ok (kindIn ks m)) ∧ ks.map (·.1) = all
  | [], ks, h => by
    cases h
    exact ⟨fun m hm => (by cases hm), rfl⟩
  | a :: all, ks, h => by
    obtain ⟨b, bs, h0, e2, rfl⟩ := mapE_cons h
    cases e : found d (sub a) with
    | error c =>
      rw [e] at h0
      cases h0
    | ok k =>
        rw [e] at h0
        cases h0
        obtain ⟨h1, h2⟩ := kinds_in (all := all) (ks := bs) e2
        refine ⟨fun m hm => ?_, by rw [List.map_cons, h2]⟩
        by_cases c : a = m
        · subst c
          unfold kindIn
          rw [List.find?_cons_of_pos (by simp)]
          exact e
        · rcases List.mem_cons.mp hm with z | z
          · exact (c z.symm).elim
          · unfold kindIn
            rw [List.find?_cons_of_neg (by simpa using c)]
            exact h1 m z
theorem kinds_self {ks : List (Text × Kind)} (hn : (ks.map (·.1)).Nodup) : ks = (ks.map (·.1)).map fun m => (m, kindIn ks m) := by
  induction ks with
  | nil => rfl
  | cons a ks ih =>
    obtain ⟨h1, h2⟩ := List.nodup_cons.mp (show (a.1 :: ks.map (·.1)).Nodup from hn)
    rw [List.map_cons, List.map_cons]
    have e1 : (a.1, kindIn (a :: ks) a.1) = a := by
      unfold kindIn
      rw [List.find?_cons_of_pos (by simp)]
      rfl
    have e2 : (ks.map (·.1)).map (fun m => (m, kindIn (a :: ks) m)) = (ks.map (·.1)).map fun m => (m, kindIn ks m) := by
      refine List.map_congr_left fun m hm => ?_
      unfold kindIn
      rw [List.find?_cons_of_neg (by
        have : a.1 ≠ m := fun z => h1 (z ▸ hm)
        simpa using this)]
    rw [e1, e2, ← ih h2]
/-- a field's mode among values -/
def modeV (vals : List Loose) (m : Text) : Mode := match recsOf vals with
  | some rs => modeOf (rs.map fun r => (occurrences m r).length)
  | none => .one
theorem modeV_rec (rs : List (List (Text × List Loose))) (m : Text) : modeV (rs.map .record) m = modeOf (rs.map fun r => (occurrences m r).length) := by
  unfold modeV
  rw [recsOf_ok]
theorem modeV_not {vals : List Loose} {v : Loose} (h : v ∈ vals) (hv : isRec v = false) (m : Text) : modeV vals m = .one := by
  unfold modeV
  rw [recs_no h hv]
/-- the fields of names -/
abbrev fl (vals : List Loose) (ks : List (Text × Kind)) (ns : List Text) : List (Text × Mode × Kind) := ns.map fun m => (m, modeV vals m, kindIn ks m)
theorem fl_rec {d : Nat} {rs : List (List (Text × List Loose))} {ks : List (Text × Kind)} {o : List Text} (h : rs ≠ []) (hn : ∀ r ∈ rs, (r.map Prod.fst).Nodup) (hk : subs d (rs.map .record) = .ok ks) (ho : inOrder (namesOf rs) (names (namesOf rs).flatten).length (names (namesOf rs).flatten) = some o) :
    found (d + 1) (rs.map .record) = .ok (.group false (numbered (fl (rs.map .record) ks o))) := by
  rw [found_recG h hn, hk]
  dsimp only
  rw [ho]
  dsimp only
  have : (fun n => (n, modeOf (rs.map fun r => (occurrences n r).length), ((ks.find? fun x => x.1 == n).map fun x => x.2).getD (Kind.leaf .bit))) = fun m => (m, modeV (rs.map Loose.record) m, kindIn ks m) := funext fun m => by
    rw [modeV_rec]
    rfl
  rw [this]
theorem names_nd (l : List Text) : (names l).Nodup := (names_rise l).imp fun {x y} w z => by rw [z, tl_irrefl] at w; cases w
theorem fl_alt {d : Nat} {as : List (Text × Loose)} {ks : List (Text × Kind)} (h : as ≠ []) (hk : subs d (as.map fun x => .alt x.1 x.2) = .ok ks) :
    found (d + 1) (as.map fun x => .alt x.1 x.2) = .ok (.group true (numbered (fl (as.map fun x => .alt x.1 x.2) ks (names ((ents (as.map fun x => .alt x.1 x.2)).map Prod.fst))))) := by
  rw [found_altG h, hk]
  dsimp only
  obtain ⟨h1, h2⟩ := kinds_in hk
  have e := kinds_self (ks := ks) (by rw [h2]; exact names_nd _)
  rw [h2] at e
  obtain ⟨a, r, rfl⟩ := List.exists_cons_of_ne_nil h
  have : (fun m => (m, modeV ((a :: r).map fun x => Loose.alt x.1 x.2) m, kindIn ks m)) = fun m => (m, Mode.one, kindIn ks m) := funext fun m => by
    rw [modeV_not (v := .alt a.1 a.2) (by simp) rfl]
  unfold fl
  rw [this]
  have e3 : ks.map (fun x => (x.1, Mode.one, x.2)) = (names ((ents ((a :: r).map fun x => Loose.alt x.1 x.2)).map Prod.fst)).map fun m => (m, Mode.one, kindIn ks m) := by
    have := congrArg (List.map fun x : Text × Kind => (x.1, Mode.one, x.2)) e
    rw [List.map_map] at this
    exact this
  rw [e3]
theorem fl_snoc (vals : List Loose) (ks : List (Text × Kind)) (ns : List Text) (m : Text) : fl vals ks (ns ++ [m]) = fl vals ks ns ++ [(m, modeV vals m, kindIn ks m)] := by
  unfold fl
  rw [List.map_append]
  rfl
/-- the mode's sign -/
theorem modeS_of (cs : List Nat) : zT (modeS (cs.map fun c : Nat => (c : Int))) = [showMode (modeOf cs)] := by
  have e1 : ((cs.map fun c : Nat => (c : Int)).all fun k => k == 1) = cs.all fun k => k == 1 := by
    rw [List.all_map]
    refine congrArg (fun f => cs.all f) (funext fun k => ?_)
    simp only [Function.comp]
    by_cases z : k = 1
    · subst z
      decide
    · have z' : ¬ ((k : Int) = 1) := by omega
      rw [show (k == 1) = false from by simpa using z, show ((k : Int) == 1) = false from by simpa using z']
  have e2 : ((cs.map fun c : Nat => (c : Int)).all fun k => decide (k ≤ 1)) = cs.all fun k => decide (k ≤ 1) := by
    rw [List.all_map]
    refine congrArg (fun f => cs.all f) (funext fun k => ?_)
    simp only [Function.comp]
    by_cases z : k ≤ 1
    · have z' : (k : Int) ≤ 1 := by omega
      simp [z, z']
    · have z' : ¬ ((k : Int) ≤ 1) := by omega
      simp [z, z']
  unfold modeS modeOf
  rw [e1, e2]
  split
  · decide +kernel
  · split
    · decide +kernel
    · decide +kernel
end SF
end -- Q3

section -- Q4
set_option Elab.async false
set_option linter.all false
set_option maxRecDepth 100000
set_option maxHeartbeats 4000000
/-! # Q4: leaves' texts; how long a kind's text is -/
namespace SF
open Vacola (Text Leaf Mode Head Kind Fields showKind showFields showHead showDefault showMode showLeaf leavesKind leavesFields decimal digitsBefore)
open Vacolo
theorem ext_ex : ∀ {zs : List Int}, zs ≠ [] → ∃ lo hi, Ext zs lo hi
  | [], h => (h rfl).elim
  | [z], _ => ⟨z, z, by simp, by simp, by simp, by simp⟩
  | z :: y :: r, _ => by
    obtain ⟨lo, hi, h1, h2, h3, h4⟩ := ext_ex (zs := y :: r) (by simp)
    refine ⟨if z ≤ lo then z else lo, if hi ≤ z then z else hi, ?_, ?_, fun x hx => ?_, fun x hx => ?_⟩
    · split
      · simp
      · exact List.mem_cons_of_mem _ h1
    · split
      · simp
      · exact List.mem_cons_of_mem _ h2
    · rcases List.mem_cons.mp hx with rfl | hx
      · split <;> omega
      · have := h3 x hx
        split <;> omega
    · rcases List.mem_cons.mp hx with rfl | hx
      · split <;> omega
      · have := h4 x hx
        split <;> omega
theorem inn_all {zs : List Int} {lo hi : Int} (e : Ext zs lo hi) (n : Nat) : zs.all (inBits n) = inn n lo hi := by
  obtain ⟨h1, h2, h3, h4⟩ := e
  apply Bool.eq_iff_iff.mpr
  rw [List.all_eq_true]
  unfold inn inBits
  simp only [Bool.and_eq_true, decide_eq_true_eq]
  constructor
  · intro h
    exact ⟨(h lo h1).1, (h hi h2).2⟩
  · rintro ⟨a, b⟩ x hx
    have := h3 x hx
    have := h4 x hx
    omega
theorem num_text {zs : List Int} {lo hi : Int} (e : Ext zs lo hi) {t : Text} (h : IsNumT lo hi t) : t = showLeaf (numLeaf zs) := by
  have hall : (zs.all fun z => z == 0 || z == 1) = true ↔ 0 ≤ lo ∧ hi ≤ 1 := by
    obtain ⟨h1, h2, h3, h4⟩ := e
    rw [List.all_eq_true]
    simp only [Bool.or_eq_true, beq_iff_eq]
    constructor
    · intro h
      have a := h lo h1
      have b := h hi h2
      omega
    · rintro ⟨a, b⟩ x hx
      have := h3 x hx
      have := h4 x hx
      omega
  rcases h with ⟨a, b, rfl⟩ | ⟨hn, n, hb, rfl⟩
  · unfold numLeaf
    rw [if_pos (hall.mpr ⟨a, b⟩)]
    rfl
  · unfold numLeaf
    rw [if_neg fun z => hn (hall.mp z)]
    have hf : (List.range 65).find? (fun n => decide (2 ≤ n) && zs.all (inBits n)) = some n := by
      obtain ⟨b1, b2, b3, b4⟩ := hb
      rw [List.find?_range_eq_some]
      refine ⟨by simp [inn_all e, b1, b3], by simp; omega, fun j hj => ?_⟩
      by_cases z : 2 ≤ j
      · simp [inn_all e, b4 j z hj]
      · simp [z]
    rw [hf]
    rfl
theorem num_in {zs : List Int} {lo hi : Int} (e : Ext zs lo hi) (h : ∀ z ∈ zs, LOW ≤ z ∧ z ≤ HIGH) : inn 64 lo hi = true := by
  have a := h lo e.1
  have b := h hi e.2.1
  unfold LOW HIGH at a b
  unfold inn
  simp only [Bool.and_eq_true, decide_eq_true_eq]
  omega
theorem fold_max : ∀ (l : List Text) (n : Nat), l.foldl (fun n s => max n s.length) n = max n (l.foldl (fun n s => max n s.length) 0)
  | [], n => by simp
  | s :: l, n => by
    rw [List.foldl_cons, List.foldl_cons, fold_max l (max n s.length), fold_max l (max 0 s.length)]
    omega
theorem fold_le : ∀ (l : List Text) (n : Nat), (∀ s ∈ l, s.length ≤ n) → l.foldl (fun n s => max n s.length) 0 ≤ n
  | [], n, _ => Nat.zero_le _
  | s :: l, n, h => by
    rw [List.foldl_cons, fold_max]
    have := fold_le l n fun x hx => h x (List.mem_cons_of_mem _ hx)
    have := h s (by simp)
    omega
theorem fold_ge : ∀ (l : List Text) (s : Text), s ∈ l → s.length ≤ l.foldl (fun n s => max n s.length) 0
  | [], s, h => by cases h
  | x :: l, s, h => by
    rw [List.foldl_cons, fold_max]
    rcases List.mem_cons.mp h with rfl | h
    · omega
    · have := fold_ge l s h
      omega
/-- the greatest length -/
theorem str_text {l : List Text} {m : Nat} (h1 : ∃ s ∈ l, s.length = m) (h2 : ∀ s ∈ l, s.length ≤ m) : strLeaf l = .text (if m > 1 then m else 1) := by
  unfold strLeaf
  rw [fold_max]
  obtain ⟨s, hs, e⟩ := h1
  have a := fold_ge l s hs
  have b := fold_le l m h2
  have : max 1 (l.foldl (fun n s => max n s.length) 0) = if m > 1 then m else 1 := by
    split <;> omega
  rw [this]
/-! ### how long -/
theorem sum_one {A : Type} {f g : A → Nat} {a : A} {c : Nat} (h : ∀ m, m ≠ a → f m ≤ g m) (ha : f a ≤ g a + c) : ∀ {l : List A}, l.Nodup → (l.map f).sum ≤ (l.map g).sum + c
  | [], _ => Nat.zero_le _
  | x :: l, hn => by
    obtain ⟨h1, h2⟩ := List.nodup_cons.mp hn
    rw [List.map_cons, List.map_cons, List.sum_cons, List.sum_cons]
    by_cases z : x = a
    · subst z
      have : ∀ l : List A, x ∉ l → (l.map f).sum ≤ (l.map g).sum := by
        intro l
        induction l with
        | nil => exact fun _ => Nat.le_refl _
        | cons y l ih =>
          intro hx
          rw [List.map_cons, List.map_cons, List.sum_cons, List.sum_cons]
          have := ih fun w => hx (List.mem_cons_of_mem _ w)
          have := h y fun w => hx (by rw [w]; simp)
          omega
      have := this l h1
      omega
    · have := sum_one h ha h2
      have := h x z
      omega
theorem occ_sum (d : Nat) {ns : List Text} (hn : ns.Nodup) : ∀ es : List (Text × List Loose), (ns.map fun m => if m ∈ es.map Prod.fst then 1 + wts d (occ m es) else 0).sum ≤ wtE d es
  | [] => by
    have : ∀ l : List Text, (l.map fun m => if m ∈ ([] : List (Text × List Loose)).map Prod.fst then 1 + wts d (occ m []) else 0).sum = 0 := by
      intro l
      induction l with
      | nil => rfl
      | cons a l ih => rw [List.map_cons, List.sum_cons, ih]; simp
    rw [this]
    exact Nat.zero_le _
  | e :: es => by
    have ih := occ_sum d hn es
    have e2 : wtE d (e :: es) = (1 + wts d e.2) + wtE d es := rfl
    have key : (ns.map fun m => if m ∈ (e :: es).map Prod.fst then 1 + wts d (occ m (e :: es)) else 0).sum ≤ (ns.map fun m => if m ∈ es.map Prod.fst then 1 + wts d (occ m es) else 0).sum + (1 + wts d e.2) := by
      refine sum_one (a := e.1) (fun m hm => ?_) ?_ hn
      · have h1 : occ m (e :: es) = occ m [e] ++ occ m es := occ_app m [e] es
        rw [h1, occ_one, if_neg (Ne.symm hm), List.nil_append]
        have : (m ∈ (e :: es).map Prod.fst) ↔ m ∈ es.map Prod.fst := by
          rw [List.map_cons, List.mem_cons]
          exact ⟨fun z => z.resolve_left hm, .inr⟩
        simp only [this]
        exact Nat.le_refl _
      · have h1 : occ e.1 (e :: es) = occ e.1 [e] ++ occ e.1 es := occ_app e.1 [e] es
        rw [h1, occ_one, if_pos rfl, wts_app, if_pos (by simp)]
        split
        · omega
        · rename_i z
          rw [occ_out z]
          show 1 + (wts d e.2 + 0) ≤ _
          omega
    omega
theorem ft_len {vals : List Loose} {ks : List (Text × Kind)} : ∀ {ns : List Text}, ns.length ≤ 1000000 → (∀ m ∈ ns, m.length ≤ 12) → (ft (fl vals ks ns)).length ≤ (ns.map fun m => 21 + (showKind (kindIn ks m)).length).sum := by
  have go : ∀ (l : List Text) (ns : List Text), ns = l.reverse → ns.length ≤ 1000000 → (∀ m ∈ ns, m.length ≤ 12) → (ft (fl vals ks ns)).length ≤ (ns.map fun m => 21 + (showKind (kindIn ks m)).length).sum := by
    intro l
    induction l with
    | nil =>
      rintro ns rfl _ _
      show (ft []).length ≤ _
      rw [ft_nil]
      exact Nat.zero_le _
    | cons m l ih =>
      rintro ns rfl hl hm
      rw [List.reverse_cons] at hl hm ⊢
      have i1 := ih _ rfl (by rw [List.length_append] at hl; simp at hl ⊢; omega) fun x hx => hm x (List.mem_append_left _ hx)
      rw [fl_snoc, ft_snoc, List.map_append, List.sum_append]
      have h12 := hm m (by simp)
      have hlen : (fl vals ks l.reverse).length + 1 ≤ 1000000 := by
        simp only [List.length_map]
        rw [List.length_append] at hl
        simpa using hl
      have hd := decimal_len (n := (fl vals ks l.reverse).length + 1) (by omega)
      simp only [List.length_append, List.length_cons, List.map_cons, List.map_nil, List.sum_cons, List.sum_nil]
      have : (if fl vals ks l.reverse = [] then ([] : Text) else [59]).length ≤ 1 := by split <;> simp
      omega
  intro ns
  exact go ns.reverse ns (by simp)
end SF
namespace SF
open Vacola (Text Leaf Mode Head Kind Fields showKind showFields showHead showDefault showMode showLeaf leavesKind leavesFields decimal digitsBefore)
open Vacolo
theorem numLeaf_len (zs : List Int) : (showLeaf (numLeaf zs)).length ≤ 9 := by
  unfold numLeaf
  split
  · decide
  · show (105 :: decimal _).length ≤ 9
    have : ((List.range 65).find? fun n => decide (2 ≤ n) && zs.all (inBits n)).getD 64 < 10000000 := by
      cases e : (List.range 65).find? fun n => decide (2 ≤ n) && zs.all (inBits n) with
      | none => decide
      | some n =>
        have := List.mem_range.mp (List.mem_of_find?_eq_some e)
        show n < _
        omega
    have := decimal_len this
    simp only [List.length_cons]
    omega
theorem strLeaf_len {l : List Text} (h : ∀ s ∈ l, s.length ≤ 999) : (showLeaf (strLeaf l)).length ≤ 9 := by
  unfold strLeaf
  rw [fold_max]
  have := fold_le l 999 h
  show (116 :: decimal _).length ≤ 9
  have := decimal_len (n := max 1 (l.foldl (fun n s => max n s.length) 0)) (by omega)
  simp only [List.length_cons]
  omega
theorem good_len {s : Text} (h : Vacola.goodName s = true) : s.length ≤ 12 := by
  unfold Vacola.goodName at h
  cases s with
  | nil => cases h
  | cons c r =>
    simp only [Bool.and_eq_true, decide_eq_true_eq] at h
    exact h.2
theorem sum_mono {A : Type} {f g : A → Nat} : ∀ {l : List A}, (∀ m ∈ l, f m ≤ g m) → (l.map f).sum ≤ (l.map g).sum
  | [], _ => Nat.le_refl _
  | a :: l, h => by
    rw [List.map_cons, List.map_cons, List.sum_cons, List.sum_cons]
    have := sum_mono (l := l) fun m hm => h m (List.mem_cons_of_mem _ hm)
    have := h a (by simp)
    omega
theorem sum_mul {A : Type} (f : A → Nat) (c : Nat) : ∀ l : List A, (l.map fun m => c * f m).sum = c * (l.map f).sum
  | [] => by simp
  | a :: l => by
    rw [List.map_cons, List.map_cons, List.sum_cons, List.sum_cons, sum_mul f c l, Nat.mul_add]
/-- fields' text: short -/
theorem grp_len {n : Nat} {vals : List Loose} {ks : List (Text × Kind)} {ns : List Text} (ih : ∀ m ∈ (ents vals).map Prod.fst, (showKind (kindIn ks m)).length ≤ 30 * wts n (occ m (ents vals))) (hA : AskAt (n + 1) vals) (hn : ns.Nodup) (hs : ∀ m ∈ ns, m ∈ (ents vals).map Prod.fst) :
    ns.length ≤ 500000 ∧ (ft (fl vals ks ns)).length + 9 * ns.length ≤ 30 * wtE n (ents vals) := by
  have hl : ns.length ≤ 500000 := by
    have e := List.Nodup.length_le_of_subset hn hs
    rw [List.length_map] at e
    have := many_len (ents vals)
    have := hA.many
    omega
  refine ⟨hl, ?_⟩
  have hgood := names_good hA.wf
  have h1 := ft_len (vals := vals) (ks := ks) (ns := ns) (by omega) fun m hm => by
    obtain ⟨e, he, rfl⟩ := List.mem_map.mp (hs m hm)
    exact good_len (hgood e he)
  have h2 : (ns.map fun m => 21 + (showKind (kindIn ks m)).length).sum + 9 * ns.length ≤ (ns.map fun m => 30 * (if m ∈ (ents vals).map Prod.fst then 1 + wts n (occ m (ents vals)) else 0)).sum := by
    clear h1 hl hn
    induction ns with
    | nil => exact Nat.le_refl _
    | cons m ns ih2 =>
      have a := ih2 fun x hx => hs x (List.mem_cons_of_mem _ hx)
      have b := ih m (hs m (by simp))
      rw [List.map_cons, List.map_cons, List.sum_cons, List.sum_cons, if_pos (hs m (by simp)), List.length_cons]
      omega
  rw [sum_mul] at h2
  have h3 := Nat.le_trans h2 (Nat.mul_le_mul_left 30 (occ_sum n hn (ents vals)))
  omega
theorem order_sub {rows : List (List Text)} : ∀ {k : Nat} {left o : List Text}, inOrder rows k left = some o → (∀ x ∈ o, x ∈ left) ∧ (left.Nodup → o.Nodup)
  | k, [], o, h => by
    rw [inO_nil] at h
    cases h
    exact ⟨fun x hx => hx, fun h => h⟩
  | 0, a :: l, o, h => by
    rw [inOrder] at h
    cases h
    intro z
    cases z
  | k + 1, a :: l, o, h => by
    rw [inOrder] at h
    · cases e : (a :: l).find? (free rows (a :: l)) with
      | none =>
        rw [e] at h
        cases h
      | some n =>
        rw [e] at h
        dsimp only at h
        obtain ⟨o', ho, rfl⟩ := Option.map_eq_some_iff.mp h
        obtain ⟨h1, h2⟩ := order_sub ho
        have hm := List.mem_of_find?_eq_some e
        refine ⟨fun x hx => ?_, fun hn => ?_⟩
        · rcases List.mem_cons.mp hx with rfl | hx
          · exact hm
          · exact (List.mem_filter.mp (h1 x hx)).1
        · refine List.nodup_cons.mpr ⟨fun z => ?_, h2 (hn.filter _)⟩
          have := (List.mem_filter.mp (h1 n z)).2
          simp at this
    · intro z
      cases z
theorem kind_len : ∀ (n : Nat) (vals : List Loose) (k : Kind), AskAt n vals → found (n + 1) vals = .ok k → (showKind k).length ≤ 30 * wts n vals := by
  intro n
  induction n with
  | zero =>
    intro vals k hA h
    have hw := hA.len
    have hpos : 1 ≤ vals.length := List.length_pos_iff.mpr hA.ne
    have := wts_len 0 vals
    rcases found_cases vals with ⟨zs, rfl⟩ | ⟨zs, hz, rfl⟩ | ⟨rs, hr, rfl⟩ | ⟨as, ha, rfl⟩ | ⟨v, u, hv, hu, hne⟩
    · rw [found_num] at h
      cases h
      have := numLeaf_len zs
      rw [showKind]
      omega
    · rw [found_str _ hz] at h
      cases h
      have := strLeaf_len (l := zs) fun s hs => wf_str.mp (hA.wf _ (List.mem_map.mpr ⟨s, hs, rfl⟩))
      rw [showKind]
      omega
    · obtain ⟨a, r, rfl⟩ := List.exists_cons_of_ne_nil hr
      obtain ⟨m, e⟩ := wf_grp (hA.wf (.record a) (by simp)) rfl
      cases e
    · obtain ⟨a, r, rfl⟩ := List.exists_cons_of_ne_nil ha
      obtain ⟨m, e⟩ := wf_grp (hA.wf (.alt a.1 a.2) (by simp)) rfl
      cases e
    · rw [found_mix _ hv hu hne] at h
      cases h
  | succ n ih =>
    intro vals k hA h
    have hw := hA.len
    have hpos : 1 ≤ vals.length := List.length_pos_iff.mpr hA.ne
    have hwl := wts_len (n + 1) vals
    have hwe := wtE_ents n vals
    rcases found_cases vals with ⟨zs, rfl⟩ | ⟨zs, hz, rfl⟩ | ⟨rs, hr, rfl⟩ | ⟨as, ha, rfl⟩ | ⟨v, u, hv, hu, hne⟩
    · rw [found_num] at h
      cases h
      have := numLeaf_len zs
      rw [showKind]
      omega
    · rw [found_str _ hz] at h
      cases h
      have := strLeaf_len (l := zs) fun s hs => wf_str.mp (hA.wf _ (List.mem_map.mpr ⟨s, hs, rfl⟩))
      rw [showKind]
      omega
    · have hnd := wf_nd hA.wf
      cases e : subs (n + 1) (rs.map .record) with
      | error c =>
        rw [found_recG hr hnd, e] at h
        cases h
      | ok ks =>
        cases eo : inOrder (namesOf rs) (names (namesOf rs).flatten).length (names (namesOf rs).flatten) with
        | none =>
          rw [found_recG hr hnd, e] at h
          dsimp only at h
          rw [eo] at h
          cases h
        | some o =>
          rw [fl_rec hr hnd e eo] at h
          cases h
          obtain ⟨h1, h2⟩ := kinds_in e
          obtain ⟨s1, s2⟩ := order_sub eo
          have hsub : ∀ m ∈ o, m ∈ (ents (rs.map Loose.record)).map Prod.fst := fun m hm => by
            rw [names_recs2]
            exact (names_mem _ m).mp (s1 m hm)
          obtain ⟨g1, g2⟩ := grp_len (ks := ks) (fun m hm => ih _ _ (hA.sub hm) (h1 m ((names_mem _ m).mpr hm))) hA (s2 (names_nd _)) hsub
          rw [showKind]
          simp only [List.length_cons, List.length_append, List.length_nil]
          have he2 : wtE n (ents (rs.map Loose.record)) + 1 ≤ wts (n + 1) (rs.map Loose.record) := by
            obtain ⟨a, r, rfl⟩ := List.exists_cons_of_ne_nil hr
            have q := wtE_ents n (r.map Loose.record)
            have q1 : wtE n (ents ((a :: r).map Loose.record)) = wtE n a + wtE n (ents (r.map Loose.record)) := wtE_app n a _
            have q2 : wts (n + 1) ((a :: r).map Loose.record) = (1 + wtE n a) + wts (n + 1) (r.map Loose.record) := rfl
            omega
          show (ft (fl (rs.map Loose.record) ks o)).length + 1 + 1 ≤ _
          omega
    · cases e : subs (n + 1) (as.map fun x => .alt x.1 x.2) with
      | error c =>
        rw [found_altG ha, e] at h
        cases h
      | ok ks =>
        rw [fl_alt ha e] at h
        cases h
        obtain ⟨h1, h2⟩ := kinds_in e
        obtain ⟨g1, g2⟩ := grp_len (ks := ks) (fun m hm => ih _ _ (hA.sub hm) (h1 m ((names_mem _ m).mpr hm))) hA (names_nd ((ents (as.map fun x => Loose.alt x.1 x.2)).map Prod.fst)) fun m hm => (names_mem _ m).mp hm
        rw [showKind]
        simp only [List.length_cons, List.length_append, List.length_nil]
        have hne : 1 ≤ (names ((ents (as.map fun x => Loose.alt x.1 x.2)).map Prod.fst)).length := by
          obtain ⟨a, r, rfl⟩ := List.exists_cons_of_ne_nil ha
          refine List.length_pos_of_mem (a := a.1) ((names_mem _ _).mpr ?_)
          rw [names_alts]
          simp
        show (ft (fl (as.map fun x => Loose.alt x.1 x.2) ks (names ((ents (as.map fun x => Loose.alt x.1 x.2)).map Prod.fst)))).length + 1 + 1 ≤ _
        omega
    · rw [found_mix _ hv hu hne] at h
      cases h
end SF
end -- Q4

section -- S10
set_option Elab.async false
set_option linter.all false
set_option maxRecDepth 100000
set_option maxHeartbeats 8000000
/-! # S10: ask_under, ask_together -/
namespace SF
open PySem PySem.Spec PyProof.Rows L2
open L2H (RoomH PinOk cxH PMk5 suiteX)
open Vacolo (Loose Clash found under)
variable {P : Program} {w : World} {K : PySem.W.Frag} {mg : Str → Option Value} {base : Heap}
/-- as Fun.ok, for a def that may raise where contexts are chains -/
theorem okK {x qual : Str} {st : Stmt} {f : Addr} {fd : FuncData} {N ps : List Str} {k : Nat} {sp : Sp} (F : Fun K x qual st f fd) (S : FnScope N ps (defScope st)) (len : ∀ vs H Q E, sp vs H Q E → vs.length = ps.length)
    (hbody : ∀ (cdv : Value) (A : Around) (outer : List Env) (s : Shared) (H : Hp) (vs : List V) (Q : VK) (E : XK), Room k (A.deeper (envOfC qual (defScope st) s.heap.objs.size f cdv)) → sp vs H Q E →
      ∃ t, PSs (cxOf (CXk P w) P w K mg base N qual (defScope st) f cdv A outer s H E) (defBody st) t ∧ t { nx := fun _ H' => Q .non H', rt := Q } (start N vs) H) : FnOk P w K mg base (CXk P w) (k + 1) f fd ps sp := by
  obtain ⟨oc, od, kV, doc, pm, an, cdv, ct, osl, rfl, lk, hcd⟩ := F.ex
  exact fn_of lk hcd S len fun A outer s H vs Q E hr hsp => hbody cdv A outer s H vs Q E hr hsp
/-- a clash raised -/
def ClsR (K : PySem.W.Frag) (c : Clash) (H : Hp) (E : XK) : Prop := ∀ (d : Addr) (H' : Hp) (l : Addr) (ys : List V), H d = none → H' d = some (errO "number" "path" (.int c.number) (.ref l)) → H' l = some (.lst ys) → Nms H' ys c.path → Same H H' → E (.ref (CC K)) (some d) H'
theorem ClsR.from {c : Clash} {H H1 : Hp} {E : XK} (h : ClsR K c H E) (s : Same H H1) : ClsR K c H1 E := fun d H' l ys a b e f g => h d H' l ys (Same.fresh s a) b e f (Same.trans s g)
def spAsk (K : PySem.W.Frag) (n : Nat) : Sp := fun vs H Q E => ∃ (a : Addr) (xs : List V) (vals : List Loose), vs = [.ref a] ∧ SqL K H a xs ∧ RLs H xs vals ∧ AskAt n vals ∧
  (∀ k, found (n + 1) vals = .ok k → ∀ H', Same H H' → Q .non H') ∧ (∀ c, found (n + 1) vals = .error c → ClsR K c H E)
def spAskU (K : PySem.W.Frag) (n : Nat) : Sp := fun vs H Q E => ∃ (m a : Addr) (nm : List Nat) (xs : List V) (vals : List Loose), vs = [.ref m, .ref a] ∧ H m = some (.tup (vT nm)) ∧ SqL K H a xs ∧ RLs H xs vals ∧ AskAt n vals ∧
  (∀ k, found (n + 1) vals = .ok k → ∀ H', Same H H' → Q .non H') ∧ (∀ c, found (n + 1) vals = .error c → ClsR K { c with path := nm :: c.path } H E)
theorem sc_ask_under : FnScope ["name", "values", "e"] ["name", "values"] (defScope s_ask_under) := ⟨rfl, rfl, rfl, by decide +kernel, rfl, by decide +kernel, by decide +kernel⟩
/-- Clash(..) raised on within a suite -/
theorem pmk_hot {Y : Cx} {a : Addr} {oe : Obj} {e1 e2 : Expr} {ta : TA} {p pos : Pos} (hK : Y.K = K) (T : Txt Y.K Y.mg) (hr : RoomH 2 Y.A) (hm : (a, oe) ∈ Y.pn) (ha : PA Y [e1, e2] ta) (hg : Gl Y "Clash" := by rfl)
    (he : starEach [e1, e2] Y.env = (false, eval e1 Y.env) :: starEach [e2] Y.env := by rfl) (hpl : (backTo pos (starEach [e2] Y.env)).any (·.1) = false := by rfl) : PMk5 Y (.Call (.Name "Clash" p) [e1, e2] [] pos) (tMkO (CC K) (spErr (CC K) "number" "path") [] (upA ta)) := by
  subst hK
  obtain ⟨x, b, c⟩ := clash_run (X := Y) T
  obtain ⟨fd, F, hb⟩ := clash_any (P := Y.prog) (w := Y.w) (base := Y.base) T
  exact pmk_run (X := Y) (CX := CX0) (fd := fd) (p := p) (pos := pos) x b c F.len hb (fun pins s σ H us0 us vs Q I b r q => by
      have P1 := I.pin (a, oe) (List.mem_append_left _ hm)
      exact F.run _ Y.stack _ _ ⟨us, []⟩ us vs Q _ (a, oe) (hr.make (CC Y.K) us0 []) ⟨P1.1, P1.2.1, fun hmm => (List.mem_cons.mp (I.stkSub a hmm)).elim P1.2.2.1 P1.2.2.2.1, P1.2.2.2.2⟩ (I.env0.make (CC Y.K) us0 []) b r q)
    (fun _ _ _ _ _ _ _ z => z.elim) hg (T.glo "Clash" (by decide +kernel)) (pa_up ha) (by decide) he hpl
abbrev x0 (P : Program) (w : World) (K : PySem.W.Frag) (mg : Str → Option Value) (base : Heap) (cdv : Value) (A : Around) (outer : List Env) (s : Shared) (H : Hp) (E : XK) : Cx := cxOf (CXk P w) P w K mg base ["name", "values", "e"] "ask_under" (defScope s_ask_under) (He.ga K "ask_under") cdv A outer s H E
theorem ok_ask_under {k n : Nat} (T : Txt K mg) (hk : 2 ≤ k) (hn : n ≤ 100) (ht : DefOk P w K mg base (CXk P w) k (He.ga K "ask_together") ["values"] (spAsk K n)) : DefOk P w K mg base (CXk P w) (k + 1) (He.ga K "ask_under") ["name", "values"] (spAskU K n) := by
  obtain ⟨fd, F⟩ := dT T defsB (.inr (.inl rfl)) 7 rfl
  refine ⟨fd, ?_, bind2 F fun _ _ _ _ _ _ _ _ => rfl, F.kp⟩
  have nd := sc_ask_under.nd
  obtain ⟨c1, c2, c3, c4, c5⟩ := T.exc "Clash" (by decide +kernel)
  obtain ⟨fdT, FT, bT, kT⟩ := ht.ex
  refine okK F sc_ask_under (fun vs H Q E h => by obtain ⟨m, a, nm, xs, vals, rfl, _⟩ := h; rfl) (fun cdv A outer s H vs Q E hr h => ⟨_,
    pss_one (ps_try_ch (x := "Clash") (n := "e") (i := 2) (c := .ref (CC K)) (E := E) rfl rfl rfl rfl nd rfl rfl ⟨rfl, by decide, .inl (T.glo "Clash" (by decide +kernel))⟩ ⟨_, rfl⟩
      (fun W pn xe hW => (pss_one (ps_expr (pe_callS (E := WE W) FT hr rfl (T.glo "ask_together" (by decide +kernel)) kT bT (fun σ pins H1 s1 e s' I c => hW e s' (XEk.call I (fun _ _ _ q => q) c)) (pa_cons (pv 1) pa_nil)))))
      (fun a oe cls d ctx pn xe hz hd hxe => (pss_one (ps_raise_ch (a := a) (oa := oe) (ctx := ctx) rfl List.mem_cons_self hd.choose_spec hz.2.2 hxe
        (pmk_hot (Y := { suiteX (x0 P w K mg base cdv A outer s H E) a ((a, oe) :: pn) with xe := xe }) (a := a) (oe := oe) rfl T ⟨(hr.mono hk).dp, (hr.mono hk).un⟩ List.mem_cons_self
          (pa_cons (PE.nox (X := { suiteX (x0 P w K mg base cdv A outer s H E) a ((a, oe) :: pn) with xe := xe }) (pe_xf (X := x0 P w K mg base cdv A outer s H E) (C := CC K) (d := d) (cls := cls) (n := "number") c2 (T.noat ("Clash", "number") (by decide +kernel)) hz.zc hd (pv 2))) (pa_cons (pe_op op_cat (pe_lst (pa_cons (pv 0) pa_nil)) (PE.nox (X := { suiteX (x0 P w K mg base cdv A outer s H E) a ((a, oe) :: pn) with xe := xe }) (pe_xf (X := x0 P w K mg base cdv A outer s H E) (C := CC K) (d := d) (cls := cls) (n := "path") c2 (T.noat ("Clash", "path") (by decide +kernel)) hz.zc hd (pv 2)))) pa_nil))))))), ?_⟩)
  obtain ⟨m, a, nm, xs, vals, rfl, hm, hS, hR, hA, q1, q2⟩ := h
  refine ⟨_, rfl, a, xs, vals, rfl, hS, hR, hA, fun kk hk H' k => q1 kk hk H' k, fun c hc d H1 l ys hd hd1 hl hN k => ?_⟩
  have hnl := hN.len
  refine ⟨c5, fun e ctx lst he hch => ?_⟩
  have sH0 := Same.fresh k he
  refine ⟨fun vs H3 => ∃ p, vs = [.int c.number, .ref p] ∧ H3 p = some (.lst (.ref m :: ys)) ∧ Same H1 H3, ?_, fun vs H3 q => ?_⟩
  · refine ⟨_, rfl, rfl, rfl, d, _, _, rfl, hd1, rfl, _, rfl, (by show 1 ≤ sizeLine; decide), fun p hp => ?_⟩
    have sp := same_new (H := H1) (o := .lst [V.ref m]) hp
    refine ⟨_, rfl, rfl, rfl, d, _, _, rfl, sp _ _ hd1, rfl, p, l, _, _, rfl, rfl, upd_same, sp _ _ hl, ?_, fun p2 hp2 => ⟨p2, rfl, upd_same, sp.trans (same_new hp2)⟩⟩
    rw [hnl]
    have hsz : sizeLine = 16777216 := rfl
    have := found_path _ _ _ hc
    simp only [List.length_cons, List.length_nil]
    omega
  · obtain ⟨p, rfl, hp, s3⟩ := q
    refine ⟨(by show 2 ≤ 1000; decide), err_made (Q := fun cls d H' => (∃ l, Chn H' ctx l) ∧ wOutCh E e ctx cls d H') fun d2 H4 hd2 hd4 s4 => ⟨⟨lst, hch.keep fun x c z => (s3.trans s4) _ _ z⟩, fun he4 => ?_⟩⟩
    have s14 := s3.trans s4
    have up : ∀ b o, H4 b = some o → upd H4 e (CtO e ctx) b = some o := fun b o z => (upd_ne (ne_of_none z he4)).trans z
    exact q2 c hc d2 _ p (.ref m :: ys) (Same.fresh (k.trans s3) hd2) (up _ _ hd4) (up _ _ (s4 _ _ hp)) ⟨⟨m, rfl, up _ _ (s14 _ _ (k _ _ hm))⟩, hN.mono fun b xs z => up _ _ (s14 _ _ z)⟩ fun b o z => up _ _ (s14 _ _ (k _ _ z))
/-- kind and what of a value -/
theorem RL.pair {H : Hp} {x : V} {v : Loose} (h : RL H x v) : ∃ (r : Addr) (y : V), x = .ref r ∧ H r = some (.tup [.int (kd v : Nat), y]) := by
  cases h with
  | num h => exact ⟨_, _, rfl, h⟩
  | str e h => exact ⟨_, _, rfl, h⟩
  | record h1 h2 h3 => exact ⟨_, _, rfl, h1⟩
  | alt h1 h2 h3 h4 => exact ⟨_, _, rfl, h1⟩
/-- ask_under at a level, none at level 0 -/
def spAskV (K : PySem.W.Frag) : Nat → Sp
  | 0 => fun _ _ _ _ => False
  | n + 1 => spAskU K n
theorem clash_none {m : Nat} {H H1 : Hp} {E : XK} {D : Ends} {σ : L2.St} (h : ClsR K ⟨m, []⟩ H E) (k : Same H H1) : tErr (CC K) "number" "path" (fun cls d _ H => E cls d H) (tCons (tC (.int (m : Nat))) (tCons (tLst tNil) tNil)) D σ H1 := by
  refine ⟨fun vs H3 => ∃ l, vs = [.int (m : Nat), .ref l] ∧ H3 l = some (.lst []) ∧ Same H1 H3, ⟨(by show 0 ≤ sizeLine; decide), fun l hl => ⟨l, rfl, upd_same, same_new hl⟩⟩, ?_⟩
  rintro vs H3 ⟨l, rfl, h1, h2⟩
  exact ⟨_, _, rfl, fun d H' hd he s => h d H' l [] (Same.fresh (Same.trans k h2) hd) he (s _ _ h1) trivial (Same.trans (Same.trans k h2) s)⟩
abbrev togN : List Str := ["values", "kinds", "name", "some", "kind", "what"]
theorem sc_ask_together : FnScope togN ["values"] (defScope s_ask_together) := ⟨rfl, rfl, rfl, by decide +kernel, rfl, by decide +kernel, by decide +kernel⟩
theorem ok_ask_together {k n : Nat} (T : Txt K mg) (hk : 4 ≤ k) (hn : n ≤ 100) (hu : DefOk P w K mg base (CXk P w) k (He.ga K "ask_under") ["name", "values"] (spAskV K n)) : DefOk P w K mg base (CXk P w) (k + 1) (He.ga K "ask_together") ["values"] (spAsk K n) := by
  obtain ⟨fd, F⟩ := dT T defsB (.inr (.inl rfl)) 6 rfl
  refine ⟨fd, ?_, bind1 F fun _ _ _ _ _ _ _ => rfl, F.kp⟩
  have nd := sc_ask_together.nd
  have mlen := T.free "len" (by decide +kernel)
  have mset := T.free "set" (by decide +kernel)
  refine okK F sc_ask_together (fun vs H Q E h => by obtain ⟨a, xs, vals, rfl, _⟩ := h; rfl) (fun cdv A outer s H vs Q E hr h => ⟨_,
    (pss_cons (ps_setLc (i := 1) (own := [("kind", 4), ("what", 5)]) (g := gTup K 2 (gCons (gName 4) (gCons (gName 5) gNil))) (wi := iList K (tVar 0)) (te := tVar 4) (tt := tYes) rfl nd rfl rfl (sw_true rfl rfl rfl (by decide +kernel)) (pi_list (pv 0)) (blkOk_by (N := togN) (sc := defScope s_ask_together) (by decide +kernel))
        (fun _ _ _ _ _ => pg_tup rfl (pgs_cons (pg_name (i := 4) nd rfl (Or.inl rfl)) (pgs_cons (pg_name (i := 5) nd rfl (Or.inl rfl)) pgs_nil))) (fun _ _ _ _ _ => pts_nil) (fun _ _ _ _ _ => pv 4))
    (pss_cons (ps_if (pt_cmpR op_gt (pe_lenSet rfl rfl mlen rfl mset (pv 1)) pe_int (nomark _)) (pss_one (ps_clashN rfl (takesN rfl rfl rfl ⟨_, rfl⟩) T (hr.mono (by omega)) (pa_cons (pgi (T.int ("UNLIKE", 1) (by decide +kernel))) (pa_cons (pe_lst pa_nil) pa_nil)))) pss_nil)
    (pss_cons (ps_join (ps_if (pt_cmpR op_in_seq (pe_ix ix_list (pv 1) pe_int (fun _ _ => rfl)) (pe_tup (pa_cons (pgi (T.int ("RECORD", 2) (by decide +kernel))) (pa_cons (pgi (T.int ("CHOICE", 3) (by decide +kernel))) pa_nil))) (by with_unfolding_all rfl))
        (pss_one (ps_for (passes_of rfl) rfl (pi_list (pcall (ok_by_names T) (hr.mono (by omega)) (T.glo "by_names" (by decide +kernel)) pass0 (pa_cons (pv 0) pa_nil))) (pg_tup rfl (pgs_cons (pg_name (i := 2) nd rfl (Or.inl rfl)) (pgs_cons (pg_name (i := 3) nd rfl (Or.inl rfl)) pgs_nil)))
          (pss_one (ps_expr (pcall hu hr (T.glo "ask_under" (by decide +kernel)) (passk rfl rfl rfl ⟨_, rfl⟩) (pa_cons (pv 2) (pa_cons (pv 3) pa_nil))))))) pss_nil))
    (pss_one (ps_if (PW.pt (pw_and (pt_cmpR op_eq (pe_ix ix_list (pv 1) pe_int (fun _ _ => rfl)) (pgi (T.int ("RECORD", 2) (by decide +kernel))) (nomark _))
        (pw_and1 (pt_cmpR op_isN (pcall (ok_order_of T) (hr.mono (by omega)) (T.glo "order_of" (by decide +kernel)) pass0 (pa_cons (pcall (ok_rows_of_names T) (hr.mono (by omega)) (T.glo "rows_of_names" (by decide +kernel)) pass0 (pa_cons (pv 0) pa_nil)) pa_nil)) pe_non (nomark _)))))
        (pss_one (ps_clashN rfl (takesN rfl rfl rfl ⟨_, rfl⟩) T (hr.mono (by omega)) (pa_cons (pgi (T.int ("NO_ORDER", 2) (by decide +kernel))) (pa_cons (pe_lst pa_nil) pa_nil)))) pss_nil))))), ?_⟩)
  obtain ⟨a, xs, vals, rfl, hS, hR, hA, q1, q2⟩ := h
  have hsz : sizeLine = 16777216 := rfl
  have hxl := hR.len
  have hvl := hA.len
  refine ⟨_, rfl, a, rfl, ⟨_, hS⟩, fun D hD => ?_⟩
  refine lc_list (K := K) (a := a) (xs := xs) (fun i Hc => Hc D = some (.lst (((vals.take i).map fun v => ((kd v : Nat) : Int)).map V.int)) ∧ Same H Hc)
    ⟨upd_same, same_new hD⟩ (fun i Hc _ ⟨_, k3⟩ => k3.seq hS) ?_ ?_
  · rintro i y Hc hy ⟨g1, k3⟩
    have hi := (List.getElem?_eq_some_iff.mp hy).1
    obtain ⟨v, hv, rv⟩ := hR.at hy
    obtain ⟨r, u, rfl, e⟩ := rv.pair
    refine ⟨r, _, rfl, SqT.of (k3 _ _ e), rfl, _, _, rfl, _, _, rfl, rfl, rfl, ?_⟩
    refine ⟨_, rfl, _, g1, ?_, ?_, fun c o e => ?_⟩
    · simp only [List.length_map, List.length_take]
      omega
    · rw [upd_same, take_more hv]
      simp
    · rw [upd_ne (ne_of_none e hD)]
      exact k3 c o e
  rintro H1 ⟨g1, k1⟩
  have hall : vals.take xs.length = vals := by
    rw [hxl]
    exact List.take_of_length_le (Nat.le_refl _)
  rw [hall] at g1
  have k03 : ∀ z ∈ vals.map (fun v => ((kd v : Nat) : Int)), 0 ≤ z ∧ z ≤ 3 := fun z hz => by
    obtain ⟨v, _, rfl⟩ := List.mem_map.mp hz
    cases v <;> simp [kd]
  obtain ⟨v0, vr, hv0⟩ := List.exists_cons_of_ne_nil hA.ne
  have hhd : (vals.map fun v => ((kd v : Nat) : Int)).head? = some ((kd v0 : Nat) : Int) := by rw [hv0]; rfl
  have hone := kindsN_one hhd
  refine ⟨_, rfl, D, _, rfl, SqL.of g1, k03, _, _, rfl, rfl, _, rfl, ifb (fun c => ?_) fun c => ?_⟩
  · -- of different kinds
    have c' := of_decide_eq_true c
    have : ∃ v, v ∈ vals ∧ kd v ≠ kd v0 := Classical.byContradiction fun z => by
      have := hone.mpr fun x hx => by
        obtain ⟨v, hv, rfl⟩ := List.mem_map.mp hx
        exact congrArg Int.ofNat (Classical.byContradiction fun w => z ⟨v, hv, w⟩)
      omega
    obtain ⟨v, h1, h2⟩ := this
    have hf := found_mix n h1 (show v0 ∈ vals by rw [hv0]; simp) h2
    exact clash_none (q2 _ hf) k1
  have c' := of_decide_eq_false c
  have same : ∀ u ∈ vals, kd u = kd v0 := fun u hu => by
    have := hone.mp (by omega) _ (List.mem_map.mpr ⟨u, hu, rfl⟩)
    omega
  have hm0 : v0 ∈ vals := by rw [hv0]; simp
  have g0 : (vals.map fun v => ((kd v : Nat) : Int)).map V.int = V.int ((kd v0 : Nat) : Int) :: (vr.map fun v => ((kd v : Nat) : Int)).map V.int := by rw [hv0]; rfl
  refine ⟨fun σ' H' => ∃ b2 b3, σ' = [some (.ref a), some (.ref D), b2, b3, none, none] ∧ Same H H' ∧ H' D = some (.lst ((vals.map fun v => ((kd v : Nat) : Int)).map V.int)) ∧ (isG v0 = true → ∃ ks, subs n vals = .ok ks), ?_, ?_⟩
  · refine ⟨_, rfl, D, _, 0, .int ((kd v0 : Nat) : Int), rfl, rfl, SqL.of g1, atI_nat (j := 0) (by rw [g0]; rfl), (by show 2 ≤ sizeLine; decide), fun t ht => ?_⟩
    have st := same_new (H := H1) (o := .tup [V.int 2, V.int 3]) ht
    refine ⟨t, _, rfl, .inr (SqT.of upd_same), rfl, rfl, _, rfl, ?_⟩
    cases hg : isG v0 with
    | false =>
      refine ifF ?_ ⟨_, _, rfl, k1.trans st, st _ _ g1, fun z => by cases z⟩
      cases v0 <;> first | rfl | cases hg
    | true =>
      refine ifT ?_ ?_
      · cases v0 <;> first | rfl | cases hg
      obtain ⟨hG, hse⟩ := grp_case hm0 same hA.wf hg
      obtain ⟨n', rfl⟩ := wf_grp (hA.wf _ hm0) hg
      have hsw : Same H (upd H1 t (.tup [V.int 2, V.int 3])) := k1.trans st
      have gD := st _ _ g1
      generalize upd H1 t (.tup [V.int 2, V.int 3]) = H2 at *
      have hgood := names_good hA.wf
      refine ⟨_, rfl, a, xs, vals, rfl, hsw.seq hS, hR.mono fun c o e _ => hsw _ _ e, hG, fun e he => good_ne (hgood e he), Nat.le_trans hA.many (by omega), fun H3 l ys s3 hl0 hl hRF => ?_⟩
      generalize hall2 : Vacolo.names ((ents vals).map Prod.fst) = all at *
      have hbl : ys.length = all.length := by
        have := hRF.len
        rw [this]
        show (List.map _ (Vacolo.names _)).length = _
        rw [List.length_map, hall2]
      refine ⟨l, rfl, ⟨_, SqL.of hl⟩, for_list (K := K) (a := l) (xs := ys) (fun i σ Hc => ∃ b2 b3, σ = [some (.ref a), some (.ref D), b2, b3, none, none] ∧ Same H3 Hc ∧ ∀ x ∈ all.take i, ∃ k, found (n' + 1) (occ x (ents vals)) = .ok k)
        ⟨none, none, rfl, fun _ _ z => z, fun x hx => by cases hx⟩ (fun i σ Hc _ ⟨_, _, _, k4, _⟩ => SqL.of (k4 _ _ hl)) ?_ ?_⟩
      · rintro i y σ Hc hi ⟨b2, b3, rfl, k4, hok⟩
        obtain ⟨f', m', o', s', vs', rfl, w1, w2, w3⟩ := hRF.at hi
        obtain ⟨zs, w4, w5⟩ := hRF.occAt hi w1 w2
        have w1' : (all.map fun m => (m, occ m (ents vals)))[i]? = some (s', vs') := by rw [← hall2]; exact w1
        rw [List.getElem?_map] at w1'
        obtain ⟨x, hx, he⟩ := Option.map_eq_some_iff.mp w1'
        cases he
        have hxm : s' ∈ (ents vals).map Prod.fst := (names_mem _ s').mp (by rw [hall2]; exact List.mem_of_getElem? hx)
        refine ⟨f', _, rfl, SqT.of (k4 _ _ w2), rfl, _, _, rfl, _, _, rfl, rfl, ?_⟩
        refine ⟨_, rfl, _, rfl, m', o', s', zs, _, rfl, k4 _ _ w3, SqL.of (k4 _ _ w4), w5.mono fun c o e _ => k4 _ _ e, hA.sub hxm, fun kk hkk H5 s5 => ?_, fun cc hcc => ?_⟩
        · refine ⟨_, _, rfl, k4.trans s5, fun z hz => ?_⟩
          rw [take_more hx] at hz
          rcases List.mem_append.mp hz with hz | hz
          · exact hok z hz
          · rw [List.mem_singleton.mp hz]
            exact ⟨kk, hkk⟩
        · refine (q2 _ (hse _ { cc with path := s' :: cc.path } ?_)).from ((hsw.trans s3).trans k4)
          unfold subs kindsE
          rw [hall2]
          refine mapE_err hx (fun z hz => ?_) (by rw [hcc]; rfl)
          obtain ⟨kz, hkz⟩ := hok z hz
          exact ⟨(z, kz), by rw [hkz]; rfl⟩
      · rintro σ Hc ⟨b2, b3, rfl, k4, hok⟩
        refine ⟨_, _, rfl, (hsw.trans s3).trans k4, k4 _ _ (s3 _ _ gD), fun _ => ?_⟩
        unfold subs kindsE
        rw [hall2]
        refine mapE_ok fun z hz => ?_
        rw [hbl, List.take_of_length_le (Nat.le_refl _)] at hok
        obtain ⟨kz, hkz⟩ := hok z hz
        exact ⟨(z, kz), by rw [hkz]; rfl⟩
  · rintro σ' H2 ⟨b2, b3, rfl, k2, g2, hsub⟩
    refine ⟨_, rfl, D, _, 0, .int ((kd v0 : Nat) : Int), rfl, rfl, SqL.of g2, atI_nat (j := 0) (by rw [g0]; rfl), rfl, _, rfl, ?_⟩
    have fin : kd v0 ≠ 2 → ∃ kk, found (n + 1) vals = .ok kk := fun z => by
      obtain ⟨c0, c1, _, c3⟩ := one_kind same
      cases v0 with
      | num u =>
        obtain ⟨zs, e⟩ := c0 rfl
        rw [e, found_num]
        exact ⟨_, rfl⟩
      | str u =>
        obtain ⟨zs, e⟩ := c1 rfl
        rw [e, found_str _ fun z => hA.ne (by rw [e, z]; rfl)]
        exact ⟨_, rfl⟩
      | record u => exact (z rfl).elim
      | alt m u =>
        obtain ⟨as, e⟩ := c3 rfl
        obtain ⟨ks, hks⟩ := hsub rfl
        rw [e] at hks
        rw [e, found_altG fun z => hA.ne (by rw [e, z]; rfl), hks]
        exact ⟨_, rfl⟩
    by_cases h2 : kd v0 = 2
    · refine ifT (by rw [h2]; rfl) ?_
      obtain ⟨_, _, c2, _⟩ := one_kind same
      obtain ⟨rs, e⟩ := c2 h2
      have hne : rs ≠ [] := fun z => hA.ne (by rw [e, z]; rfl)
      have hgv : isG v0 = true := by
        cases v0 <;> first | rfl | cases h2
      obtain ⟨ks, hks⟩ := hsub hgv
      subst e
      have hnd := wf_nd hA.wf
      have hrows := hA.rows
      have hf := found_recG (d := n) hne hnd
      rw [hks] at hf
      have hgood := names_good hA.wf
      have hfl : (namesOf rs).flatten = rs.flatten.map Prod.fst := by rw [← names_recs2, ents_rec]
      refine ⟨_, rfl, a, xs, rs, rfl, k2.seq hS, hR.mono fun c o e _ => k2 _ _ e, by omega, fun fs hfs => Nat.le_trans (len_in hfs) (by omega), fun H3 l ys s3 hl0 hl hRw => ?_⟩
      refine ⟨l, ys, namesOf rs, rfl, SqL.of hl, hRw, by rw [hfl, List.length_map]; omega, fun r hr => ?_, fun r hr x hx => ?_, fun hno H4 s4 => ?_, fun o hso H4 p zs s4 hp0 hp hN => ?_⟩
      · obtain ⟨fs, hfs, rfl⟩ := List.mem_map.mp hr
        exact hnd fs hfs
      · obtain ⟨fs, hfs, rfl⟩ := List.mem_map.mp hr
        obtain ⟨e, he, rfl⟩ := List.mem_map.mp hx
        exact good_ne (hgood e (by rw [ents_rec]; exact List.mem_flatten.mpr ⟨fs, hfs, he⟩))
      · rw [hno] at hf
        exact ⟨rfl, _, rfl, ifT rfl (clash_none (q2 _ hf) ((k2.trans s3).trans s4))⟩
      · rw [hso] at hf
        exact ⟨rfl, _, rfl, ifF rfl (q1 _ hf _ ((k2.trans s3).trans s4))⟩
    · refine ifF ?_ (ifF rfl ?_)
      · cases v0 <;> first | rfl | exact (h2 rfl).elim
      · obtain ⟨kk, hkk⟩ := fin h2
        exact q1 kk hkk _ k2
theorem ok_under0 (T : Txt K mg) : DefOk P w K mg base (CXk P w) 4 (He.ga K "ask_under") ["name", "values"] (spAskV K 0) := by
  obtain ⟨fd, F⟩ := dT T defsB (.inr (.inl rfl)) 7 rfl
  exact ⟨fd, okK F sc_ask_under (fun vs H Q E h => h.elim) (fun cdv A outer s H vs Q E hr h => h.elim), bind2 F fun _ _ _ _ _ _ _ _ => rfl, F.kp⟩
theorem ok_asks (T : Txt K mg) : ∀ n, n ≤ 100 → DefOk P w K mg base (CXk P w) (2 * n + 5) (He.ga K "ask_together") ["values"] (spAsk K n)
  | 0, h => ok_ask_together T (Nat.le_refl _) h (ok_under0 T)
  | n + 1, h => ok_ask_together (k := 2 * n + 6) T (by omega) h (ok_ask_under T (by omega) (by omega) (ok_asks T n (by omega)))
end SF
end -- S10

section -- S11
set_option Elab.async false
set_option linter.all false
set_option maxRecDepth 100000
set_option maxHeartbeats 8000000
/-! # S11: Kind.fields_text -/
namespace SF
open PySem PySem.Spec PyProof.Rows L2
open Vacolo (Loose found)
open Vacola (decimal showMode showKind leavesKind)
variable {P : Program} {w : World} {K : PySem.W.Frag} {mg : Str → Option Value} {base : Heap}
abbrev CKi (K : PySem.W.Frag) : Addr := He.ga K "Kind"
abbrev aKi (K : PySem.W.Frag) : Addr := He.ma K (CKi K) "__init__"
abbrev kF (L : Nat) (t : Addr) : List (Str × V) := [("leaves", .int (L : Nat)), ("text", .ref t)]
def spK (K : PySem.W.Frag) (n : Nat) : Sp := fun vs H Q _ => ∃ (p dx a : Addr) (xs : List V) (vals : List Loose) (k : Vacola.Kind), vs = [.ref p, .ref a] ∧ H p = some (.ins (CKi K) dx []) ∧ SqL K H a xs ∧ RLs H xs vals ∧ AskAt n vals ∧ found (n + 1) vals = .ok k ∧
  ∀ H' t, Chg p H H' → H t = none → H' p = some (.ins (CKi K) dx (kF (leavesKind k) t)) → H' t = some (.lst (vT (showKind k))) → Q .non H'
def spFT (K : PySem.W.Frag) (n : Nat) : Sp := fun vs H Q _ => ∃ (p dx a b : Addr) (xs ys : List V) (vals : List Loose) (v0 : Loose) (ns : List (List Nat)) (ks : List (List Nat × Vacola.Kind)), vs = [.ref p, .ref a, .ref b] ∧ H p = some (.ins (CKi K) dx [("leaves", .int (0 : Nat))]) ∧
  SqL K H a xs ∧ RLs H xs vals ∧ AskAt (n + 1) vals ∧ vals.head? = some v0 ∧ (∀ u ∈ vals, kd u = kd v0) ∧ isG v0 = true ∧ SqL K H b ys ∧ Nms H ys ns ∧ (∀ m ∈ ns, m ∈ (ents vals).map Prod.fst) ∧ ns.length ≤ 1000000 ∧ (∀ i, (ft (fl vals ks (ns.take i))).length ≤ 16000000) ∧ subs (n + 1) vals = .ok ks ∧
  ∀ H' l, Chg p H H' → H' p = some (.ins (CKi K) dx [("leaves", .int (lv (fl vals ks ns) : Nat))]) → H l = none → H' l = some (.lst (vT (ft (fl vals ks ns)))) → Q (.ref l) H'
theorem RF.prs {H : Hp} : ∀ {xs : List V} {fs : List (List Nat × List Loose)}, RF H xs fs → ∃ es : List (List Nat × V), Prs H xs es ∧ es.map (·.1) = fs.map (·.1) ∧ ∀ s vs, (s, vs) ∈ fs → ∃ o zs, (s, V.ref o) ∈ es ∧ H o = some (.lst zs) ∧ RLs H zs vs
  | _, _, .nil => ⟨[], trivial, rfl, fun s vs h => by cases h⟩
  | _, _, .cons (f := f) (n := n) (o := o) (ys := ys) (s := s) a b c d e => by
    obtain ⟨es, h1, h2, h3⟩ := e.prs
    refine ⟨(s, .ref o) :: es, ⟨⟨f, n, rfl, a, b⟩, h1⟩, by rw [List.map_cons, List.map_cons, h2], fun s' vs' h => ?_⟩
    rcases List.mem_cons.mp h with z | z
    · cases z
      exact ⟨o, ys, by simp, c, d⟩
    · obtain ⟨o', zs, q1, q2, q3⟩ := h3 s' vs' z
      exact ⟨o', zs, List.mem_cons_of_mem _ q1, q2, q3⟩
theorem val_es {es : List (List Nat × V)} (hn : (es.map (·.1)).Nodup) {s : List Nat} {v : V} (h : (s, v) ∈ es) : valV (es.map fun e => (nmK e.1, e.2)) (nmK s) = some v := by
  induction es with
  | nil => cases h
  | cons e es ih =>
    obtain ⟨h1, h2⟩ := List.nodup_cons.mp (show (e.1 :: es.map (·.1)).Nodup from hn)
    unfold valV at ih ⊢
    rw [List.map_cons]
    by_cases c : e.1 = s
    · rw [List.find?_cons_of_pos (by simp [c])]
      rcases List.mem_cons.mp h with z | z
      · rw [← z]
        rfl
      · exact (h1 (c ▸ List.mem_map.mpr ⟨_, z, rfl⟩)).elim
    · rw [List.find?_cons_of_neg (by
        have : nmK e.1 ≠ nmK s := fun z => c (nmK_inj z)
        simpa using this)]
      rcases List.mem_cons.mp h with z | z
      · rw [← z] at c
        exact (c rfl).elim
      · exact ih h2 z
theorem Chg.kps {p C : Addr} {dx : Addr} {fs : List (Str × V)} {H H' : Hp} (c : Chg p H H') (hp : H p = some (.ins C dx fs)) : KpS H H' := fun b o e sq => c b o e fun z => by
  rw [z, hp] at e
  obtain ⟨xs, q | q⟩ := sq
  · rw [q] at e
    cases e
  · rw [q] at e
    cases e
theorem Chg.seq {p C : Addr} {dx : Addr} {fs : List (Str × V)} {H H' : Hp} {a : Addr} {xs : List V} (c : Chg p H H') (hp : H p = some (.ins C dx fs)) (hS : SqL K H a xs) : SqL K H' a xs := seq_ne hS c fun o u => ⟨fun z => (by rw [hp] at z; cases z), fun z => (by rw [hp] at z; cases z)⟩
theorem bang : zT "!" = [showMode .one] := by decide +kernel
abbrev ftN : List Str := ["self", "values", "names", "under", "found", "at", "name", "mode", "kind"]
theorem sc_K_fields_text : FnScope ftN ["self", "values", "names"] (defScope s_K_fields_text) := ⟨rfl, rfl, rfl, by decide +kernel, rfl, by decide +kernel, by decide +kernel⟩
theorem tclK (T : Txt K mg) : Cls K (CKi K) := (T.cls "Kind" (by decide +kernel)).1
theorem tnl (T : Txt K mg) : NoAttr K (CKi K) "leaves" := T.noat ("Kind", "leaves") (by decide +kernel)
theorem tnx (T : Txt K mg) : NoAttr K (CKi K) "text" := T.noat ("Kind", "text") (by decide +kernel)
theorem ok_K_fields_text {k n : Nat} (T : Txt K mg) (hk : 4 ≤ k) (hK : DefOk P w K mg base CX0 k (aKi K) ["self", "values"] (spK K n)) : DefOk P w K mg base CX0 (k + 2) (He.ma K (CKi K) "fields_text") ["self", "values", "names"] (spFT K n) := by
  obtain ⟨fd, F⟩ := dT T defsB (.inr (.inl rfl)) 12 rfl
  refine ⟨fd, ?_, bind3 F fun _ _ _ _ _ _ _ _ _ => rfl, F.kp⟩
  have nd := sc_K_fields_text.nd
  have menum := T.free "enumerate" (by decide +kernel)
  have mlist := T.free "list" (by decide +kernel)
  have mdict := T.free "dict" (by decide +kernel)
  have mstr := T.free "str" (by decide +kernel)
  refine F.ok sc_K_fields_text (fun vs H Q E h => by obtain ⟨p, dx, a, b, xs, ys, vals, v0, ns, ks, rfl, _⟩ := h; rfl) (fun cdv A outer s H vs Q E hr h => ⟨_,
    (pss_cons (ps_set (i := 3) nd rfl (.inl rfl) (pe_callTy (call_dictP rfl (Room.un65 hr)) rfl mdict (by decide +kernel) (pa_cons (pcall (ok_by_names T) (hr.mono (by omega)) (T.glo "by_names" (by decide +kernel)) pass0 (pa_cons (pv 1) pa_nil)) pa_nil)))
    (pss_cons (ps_set (i := 4) nd rfl (.inl rfl) (pe_lst pa_nil))
    (pss_cons (ps_for PassesOwn.never rfl (pi_enum rfl menum (pa_cons (pv 2) pa_nil)) (pg_tup rfl (pgs_cons (pg_name (i := 5) nd rfl (Or.inl rfl)) (pgs_cons (pg_name (i := 6) nd rfl (Or.inl rfl)) pgs_nil)))
      (pss_cons (ps_set (i := 7) nd rfl (.inl rfl) pe_str)
    (pss_cons (ps_join (ps_if (pt_cmpR op_eq (pe_ix ix_tup (pe_ix ix_list (pv 1) pe_int (fun _ _ => rfl)) pe_int (fun _ _ => rfl)) (pgi (T.int ("RECORD", 2) (by decide +kernel))) (nomark _)) (pss_one (ps_set (i := 7) nd rfl (.inl rfl) (pcall (ok_mode_of T) (hr.mono (by omega)) (T.glo "mode_of" (by decide +kernel)) pass0 (pa_cons (pv 6) (pa_cons (pv 1) pa_nil))))) pss_nil))
    (pss_cons (ps_set (i := 8) nd rfl (.inl rfl) (pmake hK (T.cls "Kind" (by decide +kernel)).2 hr (T.glo "Kind" (by decide +kernel)) pass0 (pa_cons (pe_dget (Room.un1 hr) (pv 3) (pv 6) (fun _ _ => rfl)) pa_nil)))
    (pss_cons (ps_fldaug (pv 0) (pe_fld (pv 8) rfl) in_add)
    (pss_cons (ps_join (ps_if (pt_cmpR op_gt (pv 5) pe_int (nomark _)) (pss_one (ps_set (i := 4) nd rfl (.inl rfl) (pe_op op_cat (pv 4) (pcall (ok_bytes_of T) (hr.mono (by omega)) (T.glo "bytes_of" (by decide +kernel)) pass0 (pa_cons (pe_str) pa_nil))))) pss_nil))
    (pss_one (ps_set (i := 4) nd rfl (.inl rfl) (pe_op op_cat (pe_op op_cat (pe_op op_cat (pe_op op_cat (pv 4) (pcall (ok_bytes_of T) (hr.mono (by omega)) (T.glo "bytes_of" (by decide +kernel)) pass0 (pa_cons (pe_callTy call_str_int rfl mstr (by decide +kernel) (pa_cons (pe_op op_add (pv 5) pe_int) pa_nil)) pa_nil)))
          (pe_callTy call_list_of rfl mlist (by decide +kernel) (pa_cons (pv 6) pa_nil))) (pcall (ok_bytes_of T) (hr.mono (by omega)) (T.glo "bytes_of" (by decide +kernel)) pass0 (pa_cons (pv 7) pa_nil))) (pe_fld (pv 8) rfl))))))))))
    (pss_one (ps_ret (pv 4)))))), ?_⟩)
  obtain ⟨p, dx, a, b, xs, ys, vals, v0, ns, ks, rfl, hp, hS, hR, hA, hv0, hsame, hg, hSb, hN, hmem, hnl, hB, hks, q⟩ := h
  have hsz : sizeLine = 16777216 := rfl
  have hG : ∀ v ∈ vals, isG v = true := (grp_case (List.mem_of_mem_head? hv0) hsame hA.wf hg).1
  have hgood := names_good hA.wf
  have hm0 : v0 ∈ vals := List.mem_of_mem_head? hv0
  have exn := hN.len
  refine ⟨_, rfl, a, xs, vals, rfl, hS, hR, hG, fun e he => good_ne (hgood e he), Nat.le_trans hA.many (by omega), fun H1 l1 zs s1 n1 h1 hRF => ?_⟩
  obtain ⟨es, hP, hef, hes⟩ := hRF.prs
  have hen : (es.map (·.1)).Nodup := by
    rw [hef, List.map_map]
    have : ((fun x : List Nat × List Loose => x.1) ∘ fun m => (m, occ m (ents vals))) = id := rfl
    rw [this, List.map_id]
    exact names_nd _
  have hel : es.length ≤ 500000 := by
    have e1 := congrArg List.length hef
    rw [List.length_map, List.length_map, List.length_map] at e1
    have e2 := List.Nodup.length_le_of_subset (names_nd ((ents vals).map Prod.fst)) fun x hx => (names_mem _ x).mp hx
    rw [List.length_map] at e2
    have := many_len (ents vals)
    have := hA.many
    omega
  refine ⟨l1, zs, es, rfl, h1, hP, hen, by omega, fun d hd => ?_⟩
  have sd := same_new (H := H1) (o := .dT (es.map fun e => (nmK e.1, e.2))) hd
  have kd1 : Same H (upd H1 d (.dT (es.map fun e => (nmK e.1, e.2)))) := s1.trans sd
  have hdd : upd H1 d (.dT (es.map fun e => (nmK e.1, e.2))) d = some (.dT (es.map fun e => (nmK e.1, e.2))) := upd_same
  have hes2 : ∀ s vs, (s, vs) ∈ byN vals → ∃ o zs, (s, V.ref o) ∈ es ∧ upd H1 d (.dT (es.map fun e => (nmK e.1, e.2))) o = some (.lst zs) ∧ RLs (upd H1 d (.dT (es.map fun e => (nmK e.1, e.2)))) zs vs := fun s vs hh => by
    obtain ⟨o, zs, e1, e2, e3⟩ := hes s vs hh
    exact ⟨o, zs, e1, sd _ _ e2, e3.mono fun c u z _ => sd _ _ z⟩
  generalize upd H1 d (.dT (es.map fun e => (nmK e.1, e.2))) = H2 at *
  refine ⟨by show 0 ≤ sizeLine; decide, fun l0 hl0 => ?_⟩
  have sl := same_new (H := H2) (o := .lst []) hl0
  have hp2 : H2 p = some (.ins (CKi K) dx [("leaves", .int (0 : Nat))]) := kd1 _ _ hp
  refine ⟨_, rfl, b, ys, rfl, (kd1.trans sl).seq hSb, ?_⟩
  refine for_it walk_enum (fun i σ Hc => ∃ (l : Addr) (b5 b6 b7 b8 : Option V), σ = [some (.ref p), some (.ref a), some (.ref b), some (.ref d), some (.ref l), b5, b6, b7, b8] ∧ H l = none ∧ Hc l = some (.lst (vT (ft (fl vals ks (ns.take i))))) ∧
      Hc p = some (.ins (CKi K) dx [("leaves", .int (lv (fl vals ks (ns.take i)) : Nat))]) ∧ Chg p H2 Hc ∧ i ≤ ys.length)
    ⟨l0, none, none, none, none, rfl, Same.fresh kd1 hl0, by rw [upd_same, List.take_zero]; show _ = some (HO.lst (vT (ft []))); rw [ft_nil]; rfl, by rw [List.take_zero]; show _ = some (HO.ins (CKi K) dx [("leaves", V.int (lv [] : Nat))]); rw [lv_nil]; exact sl _ _ hp2, Same.chg sl, Nat.zero_le _⟩
    (fun i σ Hc _ ⟨_, _, _, _, _, _, _, _, _, k3, _⟩ => ((Same.chg kd1).trans k3).seq hp hSb) ?_ ?_
  · rintro i v σ Hc Hc' hi ⟨l, b5, b6, b7, b8, rfl, nl, hlc, hpc, k3, hle⟩ ⟨Tt, x, y, rfl, nT, rfl, ex, ey⟩
    cases ex
    obtain ⟨m', m, rfl, e1, e2⟩ := hN.at ey
    have sT := same_new (H := Hc) (o := .tup [.int ((i : Nat) : Int), .ref m']) nT
    refine ⟨Tt, _, rfl, SqT.of upd_same, rfl, _, _, rfl, _, _, rfl, rfl, ?_⟩
    replace hlc := sT _ _ hlc
    replace hpc := sT _ _ hpc
    replace k3 := k3.trans (Same.chg sT)
    generalize upd Hc Tt (.tup [.int ((i : Nat) : Int), .ref m']) = Ha at *
    have c0 : Chg p H Ha := (Same.chg kd1).trans k3
    have hmn := hmem m (List.mem_of_getElem? e1)
    have hm' : Ha m' = some (.tup (vT m)) := c0.kps hp _ _ e2 ⟨_, .inr rfl⟩
    refine ⟨fun σ' H' => ∃ z : Str, σ' = [some (.ref p), some (.ref a), some (.ref b), some (.ref d), some (.ref l), some (.int (i : Int)), some (.ref m'), some (.str z), b8] ∧ zT z = [showMode (modeV vals m)] ∧ Same Ha H', ?_, ?_⟩
    · obtain ⟨r0, u0, x0, hx0, hr0, hxr⟩ : ∃ r0 u0 x0, xs[0]? = some x0 ∧ H r0 = some (.tup [.int (kd v0 : Nat), u0]) ∧ x0 = .ref r0 := by
        cases hR with
        | nil => cases hv0
        | @cons x v xs vs h1 h2 =>
          obtain ⟨r, y, e, h⟩ := h1.pair
          have : v = v0 := Option.some.inj hv0
          subst this
          exact ⟨r, y, x, rfl, h, e⟩
      subst hxr
      have hr0a : Ha r0 = some (.tup [.int (kd v0 : Nat), u0]) := c0.kps hp _ _ hr0 ⟨_, .inr rfl⟩
      refine ⟨_, rfl, a, xs, 0, .ref r0, rfl, rfl, c0.seq hp hS, atI_nat (j := 0) hx0, r0, _, 0, .int (kd v0 : Nat), rfl, rfl, SqT.of hr0a, atI_nat (j := 0) rfl, rfl, _, rfl, ?_⟩
      by_cases h2 : kd v0 = 2
      · obtain ⟨rs, er⟩ := (one_kind hsame).2.2.1 h2
        subst er
        have hrne : rs ≠ [] := fun z => by rw [z] at hm0; cases hm0
        refine ifT (by rw [h2]; rfl) ?_
        have hrows := hA.rows
        have hxl := hR.len
        have hvl := hA.len
        refine ⟨_, rfl, _, rfl, m', a, m, xs, rs, rfl, hm', c0.seq hp hS, hR.mono (c0.kps hp), hrne, by omega, fun fs hfs => Nat.le_trans (len_in hfs) (by omega), fun H' kb => ⟨_, rfl, ?_, kb⟩⟩
        rw [modeV_rec, ← modeS_of, List.map_map]
        congr 2
        exact List.map_congr_left fun r hr => cnt_occurrences (wf_nd hA.wf r hr)
      · refine ifF (by
          have : ((kd v0 : Nat) : Int) ≠ 2 := by omega
          simpa using this) ⟨_, rfl, ?_, fun _ _ z => z⟩
        rw [modeV_not hm0 (by cases v0 <;> first | rfl | exact (h2 rfl).elim)]
        exact bang
    rintro σ' Hb ⟨z, rfl, hz, kb⟩
    replace hlc := kb _ _ hlc
    replace hpc := kb _ _ hpc
    replace k3 := k3.trans (Same.chg kb)
    replace hm' := kb _ _ hm'
    obtain ⟨o, zs2, w1, w2, w3⟩ := hes2 m (occ m (ents vals)) (List.mem_map.mpr ⟨m, (names_mem _ m).mpr hmn, rfl⟩)
    have hdb := k3 _ _ hdd (ne_of hdd hp2 (by intro z; cases z))
    have dg : DGet Hb d (.ref m') (some (.ref o)) := by
      rw [← val_es hen w1]
      exact DGet.t hdb (nm_key hm')
    have hob := k3 _ _ w2 (ne_of w2 hp2 (by intro z; cases z))
    refine ⟨_, rfl, _, rfl, d, _, rfl, dg, fun x dxx hx hdx hne => ?_⟩
    have hxp : x ≠ p := fun z => by
      rw [z, hpc] at hx
      cases hx
    have sx : Same Hb (upd (upd Hb dxx (.own x)) x (.ins (CKi K) dxx [])) := fun b u e => by
      rw [upd_ne (ne_of_none e hx), upd_ne (ne_of_none e hdx)]
      exact e
    refine ⟨x, dxx, o, zs2, _, kindIn ks m, rfl, upd_same, SqL.of (sx _ _ hob), (w3.mono (k3.kps hp2)).mono (fun c u w _ => sx _ _ w), hA.sub hmn, (kinds_in hks).1 m ((names_mem _ m).mpr hmn), fun Hd t ch nt hxd htd => ⟨rfl, ?_⟩⟩
    have sd2 : Same Hb Hd := fun b u e => ch _ _ (sx _ _ e) (ne_of_none e hx)
    replace hlc := sd2 _ _ hlc
    replace hpc := sd2 _ _ hpc
    replace k3 := k3.trans (Same.chg sd2)
    replace hm' := sd2 _ _ hm'
    refine ⟨_, rfl, p, _, dx, _, _, rfl, hpc, tclK T, tnl T, lk_here, _, rfl, x, _, _, _, _, rfl, hxd, tclK T, tnl T, lk_here, _, _, rfl, rfl, dx, _, hpc, (by show 1 < 1000; decide), ?_⟩
    have htk : ns.take (i + 1) = ns.take i ++ [m] := take_more e1
    have hfl : fl vals ks (ns.take (i + 1)) = fl vals ks (ns.take i) ++ [(m, modeV vals m, kindIn ks m)] := by rw [htk, fl_snoc]
    have hBi := hB (i + 1)
    rw [hfl, ft_snoc] at hBi
    dsimp only at hBi
    simp only [List.length_append, List.length_cons] at hBi
    have hpe : upd Hd p (.ins (CKi K) dx (putF "leaves" (.int ((lv (fl vals ks (ns.take i)) : Nat) + (leavesKind (kindIn ks m) : Nat))) [("leaves", .int (lv (fl vals ks (ns.take i)) : Nat))])) p = some (.ins (CKi K) dx [("leaves", .int (lv (fl vals ks (ns.take (i + 1))) : Nat))]) := by
      rw [upd_same, hfl, lv_snoc]
      unfold putF
      rw [if_pos rfl]
      rfl
    have ce : Chg p Hd (upd Hd p (.ins (CKi K) dx (putF "leaves" (.int ((lv (fl vals ks (ns.take i)) : Nat) + (leavesKind (kindIn ks m) : Nat))) [("leaves", .int (lv (fl vals ks (ns.take i)) : Nat))]))) := chg_upd
    generalize upd Hd p (.ins (CKi K) dx (putF "leaves" (.int ((lv (fl vals ks (ns.take i)) : Nat) + (leavesKind (kindIn ks m) : Nat))) [("leaves", .int (lv (fl vals ks (ns.take i)) : Nat))])) = He at *
    replace hlc := ce _ _ hlc (ne_of hlc hpc (by intro z; cases z))
    replace hm' := ce _ _ hm' (ne_of hm' hpc (by intro z; cases z))
    replace htd := ce _ _ htd (ne_of htd hpc (by intro z; cases z))
    replace hxd := ce _ _ hxd hxp
    replace k3 := k3.trans ce
    have cH : Chg p H He := (Same.chg kd1).trans k3
    have frH : ∀ {Hx : Hp} {q : Addr}, Same He Hx → Hx q = none → H q = none := fun {Hx q} sx hq => by
      cases e : H q with
      | none => rfl
      | some u =>
        by_cases zp : q = p
        · rw [zp] at hq
          rw [sx _ _ hpe] at hq
          cases hq
        · rw [sx _ _ (cH _ _ e zp)] at hq
          cases hq
    generalize hF : ft (fl vals ks (ns.take i)) = Fi at *
    have hnil : (fl vals ks (ns.take i) = []) ↔ i = 0 := by
      have hil := (List.getElem?_eq_some_iff.mp e1).1
      constructor
      · intro z
        have := congrArg List.length z
        rw [List.length_map, List.length_take] at this
        simp only [List.length_nil] at this
        omega
      · intro z
        rw [z]
        rfl
    refine ⟨fun σ' H' => ∃ l2, σ' = [some (.ref p), some (.ref a), some (.ref b), some (.ref d), some (.ref l2), some (.int (i : Int)), some (.ref m'), some (.str z), some (.ref x)] ∧ H l2 = none ∧ H' l2 = some (.lst (vT (Fi ++ (if i = 0 then [] else [59])))) ∧ Same He H', ?_, ?_⟩
    · refine ⟨_, rfl, _, _, rfl, rfl, _, rfl, ifb (fun c => ?_) fun c => ?_⟩
      · have c' : (0 : Int) < i := of_decide_eq_true c
        refine ⟨_, rfl, ";", rfl, by decide +kernel, fun H3 l3 s3 n3 h3 => ?_⟩
        have ez : zT (Str.ofString ";") = [59] := by decide +kernel
        rw [ez] at h3
        refine ⟨l, l3, _, _, rfl, rfl, s3 _ _ hlc, h3, ?_, fun q2 hq2 => ?_⟩
        · rw [List.length_map, List.length_map]
          simp only [List.length_cons, List.length_nil]
          omega
        · have s4 := same_new (H := H3) (o := .lst (vT Fi ++ vT [59])) hq2
          refine ⟨q2, rfl, frH s3 hq2, ?_, Same.trans s3 s4⟩
          rw [upd_same, if_neg (by omega), vT_app]
      · have c' : ¬ (0 : Int) < i := of_decide_eq_false c
        refine ⟨l, rfl, nl, ?_, fun _ _ z => z⟩
        rw [if_pos (by omega), List.append_nil]
        exact hlc
    rintro σ' Hf ⟨l2, rfl, nl2, hl2, kf⟩
    have hsep : (if i = 0 then ([] : List Nat) else [59]) = if fl vals ks (ns.take i) = [] then [] else [59] := by
      by_cases z : i = 0
      · rw [if_pos z, if_pos (hnil.mpr z)]
      · rw [if_neg z, if_neg fun w => z (hnil.mp w)]
    have hil := (List.getElem?_eq_some_iff.mp e1).1
    have hfll : (fl vals ks (ns.take i)).length = i := by rw [List.length_map, List.length_take]; omega
    have hft : ft (fl vals ks (ns.take (i + 1))) = Fi ++ ((if i = 0 then ([] : List Nat) else [59]) ++ (decimal (i + 1) ++ (m ++ (showMode (modeV vals m) :: showKind (kindIn ks m))))) := by
      rw [hfl, ft_snoc, hF, hsep, hfll]
    have hBj := hB (i + 1)
    rw [hft] at hBj
    generalize hsp : (if i = 0 then ([] : List Nat) else [59]) = sep at *
    simp only [List.length_append, List.length_cons] at hBj
    have hstr : zT (Str.ofString (toString ((i : Int) + 1))) = decimal (i + 1) := str_nat (i + 1)
    have hdl : (decimal (i + 1)).length ≤ 7 := decimal_len (by omega)
    have hlog : ((i : Int) + 1).natAbs.log2 < 1920 := by
      have : ((i : Int) + 1).natAbs = i + 1 := by omega
      rw [this]
      exact log_small _ (Nat.lt_of_le_of_lt (show i + 1 ≤ 1000001 by omega) (by decide))
    have hcs : (Str.ofString (toString ((i : Int) + 1))).cps.size ≤ 1000 := by
      have l1 : (zT (Str.ofString (toString ((i : Int) + 1)))).length = (decimal (i + 1)).length := by rw [hstr]
      rw [Array.length_toList] at l1
      omega
    have hzs : z.cps.size ≤ 1000 := by
      have l1 : (zT z).length = 1 := by rw [hz]; rfl
      rw [Array.length_toList] at l1
      omega
    refine ⟨_, rfl, _, rfl, _, _, rfl, rfl, _, rfl, hlog, _, rfl, hcs, fun H3 l3 s3 n3 h3 => ?_⟩
    rw [hstr] at h3
    refine ⟨l2, l3, _, _, rfl, rfl, s3 _ _ hl2, h3, ?_, fun p1 hp1 => ?_⟩
    · rw [List.length_map, List.length_map, List.length_append]
      omega
    have s4 := same_new (H := H3) (o := .lst (vT (Fi ++ sep) ++ vT (decimal (i + 1)))) hp1
    have k4 := Same.trans (Same.trans kf s3) s4
    refine ⟨_, rfl, m', _, rfl, .inr (SqT.of (k4 _ _ hm')), fun l4 hl4 => ?_⟩
    have s5 := same_new (H := upd H3 p1 (.lst (vT (Fi ++ sep) ++ vT (decimal (i + 1))))) (o := .lst (vT m)) hl4
    refine ⟨p1, l4, _, _, rfl, rfl, s5 _ _ upd_same, upd_same, ?_, fun p2 hp2' => ?_⟩
    · simp only [List.length_append, List.length_map]
      omega
    have s6 := same_new (H := upd (upd H3 p1 (.lst (vT (Fi ++ sep) ++ vT (decimal (i + 1))))) l4 (.lst (vT m))) (o := .lst ((vT (Fi ++ sep) ++ vT (decimal (i + 1))) ++ vT m)) hp2'
    have k6 := Same.trans (Same.trans k4 s5) s6
    refine ⟨_, rfl, z, rfl, hzs, fun H7 l5 s7 n7 h7 => ?_⟩
    rw [hz] at h7
    refine ⟨p2, l5, _, _, rfl, rfl, s7 _ _ upd_same, h7, ?_, fun p3 hp3 => ?_⟩
    · simp only [List.length_append, List.length_map, List.length_cons, List.length_nil]
      omega
    have s8 := same_new (H := H7) (o := .lst (((vT (Fi ++ sep) ++ vT (decimal (i + 1))) ++ vT m) ++ vT [showMode (modeV vals m)])) hp3
    have k8 := Same.trans (Same.trans k6 s7) s8
    refine ⟨_, rfl, x, _, dxx, _, _, rfl, k8 _ _ hxd, tclK T, tnx T, (lk_past (by decide +kernel)).trans lk_here, p3, t, _, _, rfl, rfl, upd_same, k8 _ _ htd, ?_, fun p4 hp4 => ?_⟩
    · simp only [List.length_append, List.length_map, List.length_cons, List.length_nil]
      omega
    have s9 := same_new (H := upd H7 p3 (.lst (((vT (Fi ++ sep) ++ vT (decimal (i + 1))) ++ vT m) ++ vT [showMode (modeV vals m)]))) (o := .lst ((((vT (Fi ++ sep) ++ vT (decimal (i + 1))) ++ vT m) ++ vT [showMode (modeV vals m)]) ++ vT (showKind (kindIn ks m)))) hp4
    refine ⟨p4, _, _, _, _, rfl, frH k8 hp4, ?_, s9 _ _ (k8 _ _ hpe), k3.trans (Same.chg (Same.trans k8 s9)), by omega⟩
    rw [upd_same, hft]
    rw [← vT_app, ← vT_app, ← vT_app, ← vT_app]
    simp
  · rintro σ Hc ⟨l, b5, b6, b7, b8, rfl, nl, hlc, hpc, k3, _⟩
    have e : ns.take ys.length = ns := by
      rw [exn]
      exact List.take_of_length_le (Nat.le_refl _)
    rw [e] at hlc hpc
    exact ⟨_, rfl, q Hc l ((Same.chg kd1).trans k3) hpc nl hlc⟩
end SF
end -- S11

section -- S12
set_option Elab.async false
set_option linter.all false
set_option maxRecDepth 100000
set_option maxHeartbeats 8000000
/-! # S12: Kind.__init__ -/
namespace SF
open PySem PySem.Spec PyProof.Rows L2
open Vacolo (Loose found)
open Vacola (decimal showMode showKind leavesKind)
variable {P : Program} {w : World} {K : PySem.W.Frag} {mg : Str → Option Value} {base : Heap}
def wv (y : V) : Loose → Prop
  | .num z => y = .int z
  | .str s => y = .int (s.length : Nat)
  | _ => True
def WV : List V → List Loose → Prop
  | [], [] => True
  | y :: ys, v :: vs => wv y v ∧ WV ys vs
  | _, _ => False
theorem WV.snoc {y : V} {v : Loose} (h : wv y v) : ∀ {ys : List V} {vs : List Loose}, WV ys vs → WV (ys ++ [y]) (vs ++ [v])
  | [], [], _ => ⟨h, trivial⟩
  | _ :: _, _ :: _, ⟨a, b⟩ => ⟨a, WV.snoc h b⟩
theorem WV.num : ∀ {ys : List V} {zs : List Int}, WV ys (zs.map .num) → ys = zs.map V.int
  | [], [], _ => rfl
  | _ :: _, _ :: _, ⟨a, b⟩ => by
    have a' : _ = _ := a
    rw [a', b.num]
    rfl
theorem WV.str : ∀ {ys : List V} {zs : List (List Nat)}, WV ys (zs.map .str) → ys = (zs.map fun s => ((s.length : Nat) : Int)).map V.int
  | [], [], _ => rfl
  | _ :: _, _ :: _, ⟨a, b⟩ => by
    have a' : _ = _ := a
    rw [a', b.str]
    rfl
theorem WV.len : ∀ {ys : List V} {vs : List Loose}, WV ys vs → ys.length = vs.length
  | [], [], _ => rfl
  | _ :: _, _ :: _, ⟨_, b⟩ => congrArg (· + 1) b.len
theorem RL.what {H : Hp} {x : V} {v : Loose} (h : RL H x v) : ∃ (r : Addr) (y : V), x = .ref r ∧ H r = some (.tup [.int (kd v : Nat), y]) ∧ wv y v := by
  cases h with
  | num h => exact ⟨_, _, rfl, h, rfl⟩
  | str e h => exact ⟨_, _, rfl, h, by rw [e]; rfl⟩
  | record h1 h2 h3 => exact ⟨_, _, rfl, h1, trivial⟩
  | alt h1 h2 h3 h4 => exact ⟨_, _, rfl, h1, trivial⟩
def spFTV (K : PySem.W.Frag) : Nat → Sp
  | 0 => fun _ _ _ _ => False
  | n + 1 => spFT K n
abbrev kiN : List Str := ["self", "values", "kinds", "whats", "names", "kind", "what", "name", "some"]
theorem sc_K_init : FnScope kiN ["self", "values"] (defScope s_K_init) := ⟨rfl, rfl, rfl, by decide +kernel, rfl, by decide +kernel, by decide +kernel⟩
theorem ok_K_init {k n : Nat} (T : Txt K mg) (hk : 4 ≤ k) (hF : DefOk P w K mg base CX0 k (He.ma K (CKi K) "fields_text") ["self", "values", "names"] (spFTV K n)) : DefOk P w K mg base CX0 (k + 1) (aKi K) ["self", "values"] (spK K n) := by
  obtain ⟨fd, F⟩ := dT T defsB (.inr (.inl rfl)) 11 rfl
  refine ⟨fd, ?_, bind2 F fun _ _ _ _ _ _ _ _ => rfl, F.kp⟩
  have nd := sc_K_init.nd
  have mstr := T.free "str" (by decide +kernel)
  have mmax := T.free "max" (by decide +kernel)
  refine F.ok sc_K_init (fun vs H Q E h => by obtain ⟨p, dx, a, xs, vals, kk, rfl, _⟩ := h; rfl) (fun cdv A outer s H vs Q E hr h => ⟨_,
    (pss_cons (ps_setLc (i := 2) (own := [("kind", 5), ("what", 6)]) (g := gTup K 2 (gCons (gName 5) (gCons (gName 6) gNil))) (wi := iList K (tVar 1)) (te := tVar 5) (tt := tYes) rfl nd rfl rfl (sw_true rfl rfl rfl (by decide +kernel)) (pi_list (pv 1)) (blkOk_by (N := kiN) (sc := defScope s_K_init) (by decide +kernel))
        (fun _ _ _ _ _ => pg_tup rfl (pgs_cons (pg_name (i := 5) nd rfl (Or.inl rfl)) (pgs_cons (pg_name (i := 6) nd rfl (Or.inl rfl)) pgs_nil))) (fun _ _ _ _ _ => pts_nil) (fun _ _ _ _ _ => pv 5))
    (pss_cons (ps_setLc (i := 3) (own := [("kind", 5), ("what", 6)]) (g := gTup K 2 (gCons (gName 5) (gCons (gName 6) gNil))) (wi := iList K (tVar 1)) (te := tVar 6) (tt := tYes) rfl nd rfl rfl (sw_true rfl rfl rfl (by decide +kernel)) (pi_list (pv 1)) (blkOk_by (N := kiN) (sc := defScope s_K_init) (by decide +kernel))
        (fun _ _ _ _ _ => pg_tup rfl (pgs_cons (pg_name (i := 5) nd rfl (Or.inl rfl)) (pgs_cons (pg_name (i := 6) nd rfl (Or.inl rfl)) pgs_nil))) (fun _ _ _ _ _ => pts_nil) (fun _ _ _ _ _ => pv 6))
    (pss_cons (ps_fld (pv 0) pe_int rfl)
    (pss_one (ps_if (pt_cmpR op_eq (pe_ix ix_list (pv 2) pe_int (fun _ _ => rfl)) (pgi (T.int ("NUMBER", 0) (by decide +kernel))) (nomark _))
        (pss_cons (ps_fld (pv 0) pe_int rfl)
    (pss_one (ps_fld (pv 0) (pcall (ok_number_kind T) (hr.mono (by omega)) (T.glo "number_kind" (by decide +kernel)) pass0 (pa_cons (pv 3) pa_nil)) rfl)))
        (pss_one (ps_if (pt_cmpR op_eq (pe_ix ix_list (pv 2) pe_int (fun _ _ => rfl)) (pgi (T.int ("TEXT", 1) (by decide +kernel))) (nomark _))
          (pss_cons (ps_fld (pv 0) pe_int rfl)
    (pss_one (ps_fld (pv 0) (pcall (ok_bytes_of T) (hr.mono (by omega)) (T.glo "bytes_of" (by decide +kernel)) pass0 (pa_cons (pe_op op_add_str pe_str (pe_callTy call_str_int rfl mstr (by decide +kernel) (pa_cons (pe_callB (call_max2 rfl) rfl mmax (by decide +kernel) (pa_cons (pe_int) (pa_cons (pe_callB (cr_max rfl) rfl mmax (by decide +kernel) (pa_cons (pv 3) pa_nil)) pa_nil))) pa_nil))) pa_nil)) rfl)))
          (pss_one (ps_if (pt_cmpR op_eq (pe_ix ix_list (pv 2) pe_int (fun _ _ => rfl)) (pgi (T.int ("RECORD", 2) (by decide +kernel))) (nomark _))
            (pss_one (ps_fld (pv 0) (pe_op op_cat (pe_op op_cat (pcall (ok_bytes_of T) (hr.mono (by omega)) (T.glo "bytes_of" (by decide +kernel)) pass0 (pa_cons (pe_str) pa_nil))
                (pmeth hF (pv 0) (tclK T) (T.meth ("Kind", "fields_text") (by decide +kernel)) hr pass0 (pa_cons (pv 1) (pa_cons (pcall (ok_order_of T) (hr.mono (by omega)) (T.glo "order_of" (by decide +kernel)) pass0 (pa_cons (pcall (ok_rows_of_names T) (hr.mono (by omega)) (T.glo "rows_of_names" (by decide +kernel)) pass0 (pa_cons (pv 1) pa_nil)) pa_nil)) pa_nil))))
                (pcall (ok_bytes_of T) (hr.mono (by omega)) (T.glo "bytes_of" (by decide +kernel)) pass0 (pa_cons (pe_str) pa_nil))) rfl))
            (pss_cons (ps_setLc (i := 4) (own := [("name", 7), ("some", 8)]) (g := gTup K 2 (gCons (gName 7) (gCons (gName 8) gNil))) (te := tVar 7) (tt := tYes) rfl nd rfl rfl (sw_true rfl rfl rfl (by decide +kernel)) (pi_list (pcall (ok_by_names T) (hr.mono (by omega)) (T.glo "by_names" (by decide +kernel)) pass0 (pa_cons (pv 1) pa_nil))) (blkOk_by (N := kiN) (sc := defScope s_K_init) (by decide +kernel))
                (fun _ _ _ _ _ => pg_tup rfl (pgs_cons (pg_name (i := 7) nd rfl (Or.inl rfl)) (pgs_cons (pg_name (i := 8) nd rfl (Or.inl rfl)) pgs_nil))) (fun _ _ _ _ _ => pts_nil) (fun _ _ _ _ _ => pv 7))
    (pss_one (ps_fld (pv 0) (pe_op op_cat (pe_op op_cat (pcall (ok_bytes_of T) (hr.mono (by omega)) (T.glo "bytes_of" (by decide +kernel)) pass0 (pa_cons (pe_str) pa_nil))
                (pmeth hF (pv 0) (tclK T) (T.meth ("Kind", "fields_text") (by decide +kernel)) hr pass0 (pa_cons (pv 1) (pa_cons (pv 4) pa_nil))))
                (pcall (ok_bytes_of T) (hr.mono (by omega)) (T.glo "bytes_of" (by decide +kernel)) pass0 (pa_cons (pe_str) pa_nil))) rfl)))))))))))), ?_⟩)
  obtain ⟨p, dx, a, xs, vals, kk, rfl, hp, hS, hR, hA, hf, q⟩ := h
  have hsz : sizeLine = 16777216 := rfl
  have hxl := hR.len
  have hvl := hA.len
  refine ⟨_, rfl, a, rfl, ⟨_, hS⟩, fun D hD => ?_⟩
  refine lc_list (K := K) (a := a) (xs := xs) (fun i Hc => Hc D = some (.lst (((vals.take i).map fun v => ((kd v : Nat) : Int)).map V.int)) ∧ Same H Hc)
    ⟨upd_same, same_new hD⟩ (fun i Hc _ ⟨_, k3⟩ => k3.seq hS) ?_ ?_
  · rintro i y Hc hy ⟨g1, k3⟩
    have hi := (List.getElem?_eq_some_iff.mp hy).1
    obtain ⟨v, hv, rv⟩ := hR.at hy
    obtain ⟨r, u, rfl, e⟩ := rv.pair
    refine ⟨r, _, rfl, SqT.of (k3 _ _ e), rfl, _, _, rfl, _, _, rfl, rfl, rfl, ?_⟩
    refine ⟨_, rfl, _, g1, ?_, ?_, fun c o e => ?_⟩
    · simp only [List.length_map, List.length_take]
      omega
    · rw [upd_same, take_more hv]
      simp
    · rw [upd_ne (ne_of_none e hD)]
      exact k3 c o e
  rintro H1 ⟨g1, k1⟩
  have hall : vals.take xs.length = vals := by
    rw [hxl]
    exact List.take_of_length_le (Nat.le_refl _)
  rw [hall] at g1
  refine ⟨_, rfl, a, rfl, ⟨_, k1.seq hS⟩, fun D2 hD2 => ?_⟩
  refine lc_list (K := K) (a := a) (xs := xs) (fun i Hc => ∃ ws, Hc D2 = some (.lst ws) ∧ WV ws (vals.take i) ∧ Same H1 Hc ∧ i ≤ xs.length)
    ⟨[], upd_same, trivial, same_new hD2, Nat.zero_le _⟩ (fun i Hc _ ⟨_, _, _, k3, _⟩ => (k1.trans k3).seq hS) ?_ ?_
  · rintro i y Hc hy ⟨ws, g2, hw, k3, hle⟩
    have hi := (List.getElem?_eq_some_iff.mp hy).1
    obtain ⟨v, hv, rv⟩ := hR.at hy
    obtain ⟨r, u, rfl, e, hu⟩ := rv.what
    refine ⟨r, _, rfl, SqT.of (k3 _ _ (k1 _ _ e)), rfl, _, _, rfl, _, _, rfl, rfl, rfl, ?_⟩
    refine ⟨_, rfl, _, g2, ?_, ws ++ [u], upd_same, ?_, fun c o e => ?_, by omega⟩
    · have := hw.len
      rw [List.length_take] at this
      omega
    · rw [take_more hv]
      exact hw.snoc hu
    · rw [upd_ne (ne_of_none e hD2)]
      exact k3 c o e
  rintro H2 ⟨ws, g2, hw, k2, _⟩
  rw [hall] at hw
  replace g1 := k2 _ _ g1
  have kA : Same H H2 := k1.trans k2
  have hp2 := kA _ _ hp
  refine ⟨_, rfl, p, CKi K, dx, _, rfl, hp2, tclK T, tnl T, (by decide), ?_⟩
  have hp3 : upd H2 p (.ins (CKi K) dx (putF "leaves" (.int 0) [])) p = some (.ins (CKi K) dx [("leaves", .int (0 : Nat))]) := upd_same
  have c3 : Chg p H (upd H2 p (.ins (CKi K) dx (putF "leaves" (.int 0) []))) := (Same.chg kA).trans chg_upd
  have gA : upd H2 p (.ins (CKi K) dx (putF "leaves" (.int 0) [])) D = _ := (upd_ne (ne_of g1 hp2 (by intro z; cases z))).trans g1
  have gB : upd H2 p (.ins (CKi K) dx (putF "leaves" (.int 0) [])) D2 = _ := (upd_ne (ne_of g2 hp2 (by intro z; cases z))).trans g2
  generalize upd H2 p (.ins (CKi K) dx (putF "leaves" (.int 0) [])) = H3 at *
  have fin : ∀ (Hx : Hp) (l : Addr), Chg p H Hx → H l = none → Hx p = some (.ins (CKi K) dx [("leaves", .int (leavesKind kk : Nat))]) → Hx l = some (.lst (vT (showKind kk))) → Q .non (upd Hx p (.ins (CKi K) dx (putF "text" (.ref l) [("leaves", .int (leavesKind kk : Nat))]))) := fun Hx l c nl hpx hl => by
    refine q _ l (c.trans chg_upd) nl ?_ ?_
    · rw [upd_same]
      unfold putF
      rw [if_neg (by decide +kernel)]
      rfl
    · rw [upd_ne (ne_of hl hpx (by intro z; cases z))]
      exact hl
  have put1 : putF "leaves" (.int 1) [("leaves", .int (0 : Nat))] = ([("leaves", V.int (1 : Nat))] : List (Str × V)) := by
    unfold putF
    rw [if_pos rfl]
    rfl
  have frC : ∀ {Hx Hy : Hp} {u : Addr} {o : HO}, Chg p H Hx → Hx p = some o → Same Hx Hy → Hx u = none → H u = none := fun {Hx Hy u o} c hpx s hu => by
    cases e : H u with
    | none => rfl
    | some v =>
      by_cases zp : u = p
      · rw [zp, hpx] at hu
        cases hu
      · rw [c _ _ e zp] at hu
        cases hu
  obtain ⟨v0, vr, hv0⟩ := List.exists_cons_of_ne_nil hA.ne
  have g0 : (vals.map fun v => ((kd v : Nat) : Int)).map V.int = V.int ((kd v0 : Nat) : Int) :: (vr.map fun v => ((kd v : Nat) : Int)).map V.int := by rw [hv0]; rfl
  refine ⟨_, rfl, D, _, 0, .int ((kd v0 : Nat) : Int), rfl, rfl, SqL.of gA, atI_nat (j := 0) (by rw [g0]; rfl), rfl, _, rfl, ?_⟩
  rcases found_cases vals with ⟨zs, rfl⟩ | ⟨zs, hz, rfl⟩ | ⟨rs, hr', rfl⟩ | ⟨as, ha, rfl⟩ | ⟨v, u, hv, hu, hne⟩
  · -- numbers
    have hzne : zs ≠ [] := fun z => hA.ne (by rw [z]; rfl)
    obtain ⟨z, zr, rfl⟩ := List.exists_cons_of_ne_nil hzne
    cases hv0
    refine ifT (by show decide (V.int 0 = V.int 0) = true; decide) ?_
    rw [found_num] at hf
    cases hf
    have hnum := hw.num
    subst hnum
    obtain ⟨lo, hi, ext⟩ := ext_ex hzne
    refine ⟨_, rfl, p, _, dx, _, rfl, hp3, tclK T, tnl T, (by show 1 < 1000; decide), ?_⟩
    have hp4 : upd H3 p (.ins (CKi K) dx (putF "leaves" (.int 1) [("leaves", .int (0 : Nat))])) p = some (.ins (CKi K) dx [("leaves", .int (1 : Nat))]) := by rw [upd_same, put1]
    have c4 : Chg p H (upd H3 p (.ins (CKi K) dx (putF "leaves" (.int 1) [("leaves", .int (0 : Nat))]))) := c3.trans chg_upd
    have gC : upd H3 p (.ins (CKi K) dx (putF "leaves" (.int 1) [("leaves", .int (0 : Nat))])) D2 = _ := (upd_ne (ne_of gB hp3 (by intro z; cases z))).trans gB
    generalize upd H3 p (.ins (CKi K) dx (putF "leaves" (.int 1) [("leaves", .int (0 : Nat))])) = H4 at *
    refine ⟨_, rfl, D2, _, lo, hi, rfl, SqL.of gC, ext, num_in ext (fun x hx => wf_num.mp (hA.wf _ (List.mem_map.mpr ⟨x, hx, rfl⟩))), fun t ht H5 l5 s5 n5 h5 => ?_⟩
    rw [num_text ext ht] at h5
    exact ⟨_, rfl, p, _, dx, _, rfl, s5 _ _ hp4, tclK T, tnx T, (by show 1 < 1000; decide), fin H5 l5 (c4.trans (Same.chg s5)) (frC c4 hp4 s5 n5) (s5 _ _ hp4) (by rw [showKind]; exact h5)⟩
  · -- texts
    obtain ⟨z, zr, rfl⟩ := List.exists_cons_of_ne_nil hz
    cases hv0
    refine ifF (by show decide (V.int 1 = V.int 0) = false; decide) ?_
    refine ⟨_, rfl, D, _, 0, .int 1, rfl, rfl, SqL.of gA, atI_nat (j := 0) rfl, rfl, _, rfl, ifT (by decide) ?_⟩
    rw [found_str _ hz] at hf
    cases hf
    have hstr := hw.str
    subst hstr
    refine ⟨_, rfl, p, _, dx, _, rfl, hp3, tclK T, tnl T, (by show 1 < 1000; decide), ?_⟩
    have hp4 : upd H3 p (.ins (CKi K) dx (putF "leaves" (.int 1) [("leaves", .int (0 : Nat))])) p = some (.ins (CKi K) dx [("leaves", .int (1 : Nat))]) := by rw [upd_same, put1]
    have c4 : Chg p H (upd H3 p (.ins (CKi K) dx (putF "leaves" (.int 1) [("leaves", .int (0 : Nat))]))) := c3.trans chg_upd
    have gC : upd H3 p (.ins (CKi K) dx (putF "leaves" (.int 1) [("leaves", .int (0 : Nat))])) D2 = _ := (upd_ne (ne_of gB hp3 (by intro z; cases z))).trans gB
    generalize upd H3 p (.ins (CKi K) dx (putF "leaves" (.int 1) [("leaves", .int (0 : Nat))])) = H4 at *
    refine ⟨_, rfl, D2, _, rfl, SqL.of gC, (by simp), fun m1 hm1 hm2 => ?_⟩
    obtain ⟨s0, hs0, es0⟩ := List.mem_map.mp hm1
    have hle : ∀ s ∈ z :: zr, s.length ≤ s0.length := fun s hs => by
      have := hm2 _ (List.mem_map.mpr ⟨s, hs, rfl⟩)
      rw [← es0] at this
      omega
    have htx := str_text ⟨s0, hs0, rfl⟩ hle
    have h999 : s0.length ≤ 999 := wf_str.mp (hA.wf _ (List.mem_map.mpr ⟨s0, hs0, rfl⟩))
    have hmx : (if m1 > 1 then m1 else 1) = (((if s0.length > 1 then s0.length else 1) : Nat) : Int) := by
      rw [← es0]
      split <;> split <;> omega
    generalize hmm : (if s0.length > 1 then s0.length else 1) = mm at *
    have hm999 : mm ≤ 999 := by
      rw [← hmm]
      split <;> omega
    refine ⟨_, _, rfl, ?_⟩
    rw [hmx]
    have e := str_nat mm
    have hlog : ((mm : Nat) : Int).natAbs.log2 < 1920 := by
      rw [Int.natAbs_natCast]
      exact log_small mm (Nat.lt_of_le_of_lt hm999 (by decide))
    have hsz2 : (Str.ofString (toString ((mm : Nat) : Int))).cps.size ≤ 900 := by
      have l1 : (zT (Str.ofString (toString ((mm : Nat) : Int)))).length = (decimal mm).length := by rw [e]
      rw [Array.length_toList] at l1
      have := decimal_len (n := mm) (by omega)
      omega
    refine ⟨_, rfl, hlog, _, _, rfl, rfl, ?_, ?_⟩
    · have h1 : Str.length "t" = 1 := by decide +kernel
      have h2 : (Str.ofString (toString ((mm : Nat) : Int))).length = (Str.ofString (toString ((mm : Nat) : Int))).cps.size := rfl
      omega
    refine ⟨_, rfl, ?_, fun H5 l5 s5 n5 h5 => ?_⟩
    · rw [Str.cps_append, Array.size_append]
      have h1 : (Str.ofString "t").cps.size = 1 := by decide +kernel
      omega
    have ez : zT (Str.ofString "t" ++ Str.ofString (toString ((mm : Nat) : Int))) = 116 :: decimal mm := by
      unfold zT
      rw [Str.cps_append, Array.toList_append]
      rw [show (Str.ofString (toString ((mm : Nat) : Int))).cps.toList = decimal mm from e]
      have h1 : (Str.ofString "t").cps.toList = [116] := by decide +kernel
      rw [h1]
      rfl
    rw [ez] at h5
    exact ⟨_, rfl, p, _, dx, _, rfl, s5 _ _ hp4, tclK T, tnx T, (by show 1 < 1000; decide), fin H5 l5 (c4.trans (Same.chg s5)) (frC c4 hp4 s5 n5) (s5 _ _ hp4) (by rw [showKind, htx]; exact h5)⟩
  · -- records
    obtain ⟨v1, rr, rfl⟩ := List.exists_cons_of_ne_nil hr'
    cases hv0
    obtain ⟨m, rfl⟩ := wf_grp (hA.wf (.record v1) (by simp)) rfl
    refine ifF (by show decide (V.int 2 = V.int 0) = false; decide) ?_
    refine ⟨_, rfl, D, _, 0, .int 2, rfl, rfl, SqL.of gA, atI_nat (j := 0) rfl, rfl, _, rfl, ifF (by decide) ?_⟩
    refine ⟨_, rfl, D, _, 0, .int 2, rfl, rfl, SqL.of gA, atI_nat (j := 0) rfl, rfl, _, rfl, ifT (by decide) ?_⟩
    generalize hrs : v1 :: rr = rs at *
    have hnd := wf_nd hA.wf
    have hrows := hA.rows
    have hgood := names_good hA.wf
    have hfl : (namesOf rs).flatten = rs.flatten.map Prod.fst := by rw [← names_recs2, ents_rec]
    cases es : subs (m + 1) (rs.map Loose.record) with
    | error c =>
      rw [found_recG hr' hnd, es] at hf
      cases hf
    | ok ks =>
    cases eo : Vacolo.inOrder (namesOf rs) (Vacolo.names (namesOf rs).flatten).length (Vacolo.names (namesOf rs).flatten) with
    | none =>
      rw [found_recG hr' hnd, es] at hf
      dsimp only at hf
      rw [eo] at hf
      cases hf
    | some o =>
    rw [fl_rec hr' hnd es eo] at hf
    cases hf
    obtain ⟨ki, _⟩ := kinds_in es
    obtain ⟨os1, os2⟩ := order_sub eo
    have osub : ∀ x ∈ o, x ∈ (ents (rs.map Loose.record)).map Prod.fst := fun x hx => by
      rw [names_recs2]
      exact (names_mem _ x).mp (os1 x hx)
    have ond : o.Nodup := os2 (names_nd _)
    have hwE : 30 * wtE m (ents (rs.map Loose.record)) ≤ 15000000 := by
      have := wtE_ents m (rs.map Loose.record)
      have := hA.wt
      omega
    have gl := fun (ns : List (List Nat)) (h1 : ns.Nodup) (h2 : ∀ x ∈ ns, x ∈ o) => grp_len (ks := ks) (fun x hx => kind_len m _ _ (hA.sub hx) (ki x ((names_mem _ x).mpr hx))) hA h1 fun x hx => osub x (h2 x hx)
    have gl0 := gl o ond fun x hx => hx
    refine ⟨"{", rfl, by decide +kernel, fun H4 l4 s4 n4 h4 => ?_⟩
    have eb : zT (Str.ofString "{") = [123] := by decide +kernel
    rw [eb] at h4
    have cB : Chg p H H4 := c3.trans (Same.chg s4)
    have hp4 := s4 _ _ hp3
    refine ⟨_, rfl, p, dx, _, rfl, hp4, rfl, _, rfl, _, rfl, a, xs, rs, rfl, cB.seq hp hS, hR.mono (cB.kps hp), by omega, fun fs hfs => Nat.le_trans (len_in hfs) (by omega), fun H5 l5 ys s5 n5 h5 hRw => ?_⟩
    refine ⟨l5, ys, namesOf rs, rfl, SqL.of h5, hRw, by rw [hfl, List.length_map]; omega, fun r hr => ?_, fun r hr x hx => ?_, fun hno => ?_, fun o' hso H6 p6 zs s6 n6 h6 hN => ?_⟩
    · obtain ⟨fs, hfs, rfl⟩ := List.mem_map.mp hr
      exact hnd fs hfs
    · obtain ⟨fs, hfs, rfl⟩ := List.mem_map.mp hr
      obtain ⟨e, he, rfl⟩ := List.mem_map.mp hx
      exact good_ne (hgood e (by rw [ents_rec]; exact List.mem_flatten.mpr ⟨fs, hfs, he⟩))
    · rw [eo] at hno
      cases hno
    rw [eo] at hso
    cases hso
    have kY : Same H4 H6 := Same.trans s5 s6
    have kZ : Same H3 H6 := Same.trans s4 kY
    have hpZ := kZ _ _ hp3
    have cZ : Chg p H H6 := c3.trans (Same.chg kZ)
    have hsame : ∀ u ∈ rs.map Loose.record, kd u = kd (.record v1) := fun u hu => by
      obtain ⟨r, _, rfl⟩ := List.mem_map.mp hu
      rfl
    refine ⟨p, dx, a, p6, xs, zs, rs.map Loose.record, .record v1, o, ks, rfl, hpZ, cZ.seq hp hS, hR.mono (cZ.kps hp), hA, by rw [← hrs]; rfl, hsame, rfl, SqL.of h6, hN, osub, by omega, fun i => ?_, es, fun H7 l7 c7 hp7 n7 h7 => ?_⟩
    · have := (gl (o.take i) (ond.sublist (List.take_sublist i o)) fun x hx => List.mem_of_mem_take hx).2
      omega
    refine ⟨l4, l7, _, _, rfl, rfl, c7 _ _ (kY _ _ h4) (ne_of (kY _ _ h4) hpZ (by intro z; cases z)), h7, ?_, fun p8 hp8 => ?_⟩
    · simp only [List.length_map, List.length_cons, List.length_nil]
      omega
    have s8 := same_new (H := H7) (o := .lst (vT [123] ++ vT (ft (fl (rs.map Loose.record) ks o)))) hp8
    refine ⟨"}", rfl, by decide +kernel, fun H9 l9 s9 n9 h9 => ?_⟩
    have ec : zT (Str.ofString "}") = [125] := by decide +kernel
    rw [ec] at h9
    refine ⟨p8, l9, _, _, rfl, rfl, s9 _ _ upd_same, h9, ?_, fun p10 hp10 => ?_⟩
    · simp only [List.length_append, List.length_map, List.length_cons, List.length_nil]
      omega
    have s10 := same_new (H := H9) (o := .lst ((vT [123] ++ vT (ft (fl (rs.map Loose.record) ks o))) ++ vT [125])) hp10
    have k10 := Same.trans s8 s9
    have hpE := s10 _ _ (k10 _ _ hp7)
    have cE : Chg p H H7 := (c3.trans (Same.chg kZ)).trans c7
    have nE : H p10 = none := frC cE hp7 k10 (Same.fresh k10 hp10)
    have hlk : leavesKind (.group false (Vacolo.numbered (fl (rs.map Loose.record) ks o))) = lv (fl (rs.map Loose.record) ks o) := by rw [leavesKind]
    refine ⟨_, rfl, p, _, dx, _, rfl, hpE, tclK T, tnx T, (by show 1 < 1000; decide), ?_⟩
    have := fin _ p10 (cE.trans (Same.chg (Same.trans k10 s10))) nE (by rw [hlk]; exact hpE) (by
      rw [upd_same, showKind, ← vT_app, ← vT_app]
      rfl)
    rw [hlk] at this
    exact this
  · -- choices
    obtain ⟨v1, rr, rfl⟩ := List.exists_cons_of_ne_nil ha
    cases hv0
    obtain ⟨m, rfl⟩ := wf_grp (hA.wf (.alt v1.1 v1.2) (by simp)) rfl
    refine ifF (by show decide (V.int 3 = V.int 0) = false; decide) ?_
    refine ⟨_, rfl, D, _, 0, .int 3, rfl, rfl, SqL.of gA, atI_nat (j := 0) rfl, rfl, _, rfl, ifF (by decide) ?_⟩
    refine ⟨_, rfl, D, _, 0, .int 3, rfl, rfl, SqL.of gA, atI_nat (j := 0) rfl, rfl, _, rfl, ifF (by decide) ?_⟩
    have hhead : ((v1 :: rr).map fun x => Loose.alt x.1 x.2).head? = some (.alt v1.1 v1.2) := rfl
    have hsame : ∀ u ∈ (v1 :: rr).map (fun x => Loose.alt x.1 x.2), kd u = kd (.alt v1.1 v1.2) := fun u hu => by
      obtain ⟨r, _, rfl⟩ := List.mem_map.mp hu
      rfl
    have hgood := names_good hA.wf
    have hG := (grp_case (List.mem_of_mem_head? hhead) hsame hA.wf rfl).1
    cases es : subs (m + 1) ((v1 :: rr).map fun x => Loose.alt x.1 x.2) with
    | error c =>
      rw [found_altG ha, es] at hf
      cases hf
    | ok ks =>
    rw [fl_alt ha es] at hf
    cases hf
    obtain ⟨ki, _⟩ := kinds_in es
    generalize hvs : (v1 :: rr).map (fun x => Loose.alt x.1 x.2) = vs at *
    generalize hord : Vacolo.names ((ents vs).map Prod.fst) = ord at *
    have osub : ∀ x ∈ ord, x ∈ (ents vs).map Prod.fst := fun x hx => (names_mem _ x).mp (by rw [hord]; exact hx)
    have ond : ord.Nodup := by
      rw [← hord]
      exact names_nd _
    have hwE : 30 * wtE m (ents vs) ≤ 15000000 := by
      have := wtE_ents m vs
      have := hA.wt
      omega
    have gl := fun (ns : List (List Nat)) (h1 : ns.Nodup) (h2 : ∀ x ∈ ns, x ∈ ord) => grp_len (ks := ks) (fun x hx => kind_len m _ _ (hA.sub hx) (ki x (by rw [← hord]; exact (names_mem _ x).mpr hx))) hA h1 fun x hx => osub x (h2 x hx)
    have gl0 := gl ord ond fun x hx => hx
    refine ⟨_, rfl, a, xs, vs, rfl, c3.seq hp hS, hR.mono (c3.kps hp), hG, fun e he => good_ne (hgood e he), Nat.le_trans hA.many (by omega), fun G1 g1l gys t1 tn1 th1 tRF => ?_⟩
    have hbyn : byN vs = ord.map fun x => (x, occ x (ents vs)) := by rw [← hord]
    rw [hbyn] at tRF
    have hgl : gys.length = ord.length := by
      have := tRF.len
      rw [List.length_map] at this
      exact this
    refine ⟨g1l, rfl, ⟨_, SqL.of th1⟩, fun D5 hD5 => ?_⟩
    refine lc_list (K := K) (a := g1l) (xs := gys) (fun i Hc => ∃ acc, Hc D5 = some (.lst acc) ∧ Nms G1 acc (ord.take i) ∧ Same G1 Hc ∧ i ≤ gys.length)
      ⟨[], upd_same, trivial, same_new hD5, Nat.zero_le _⟩ (fun i Hc _ ⟨_, _, _, k4, _⟩ => SqL.of (k4 _ _ th1)) ?_ ?_
    · rintro i y Hc hy ⟨acc, b1, b2, k4, hle⟩
      have hi := (List.getElem?_eq_some_iff.mp hy).1
      obtain ⟨f', n', o', s', vs', rfl, w1, w2, w3⟩ := tRF.at hy
      rw [List.getElem?_map] at w1
      obtain ⟨x, hx, he⟩ := Option.map_eq_some_iff.mp w1
      cases he
      refine ⟨f', _, rfl, SqT.of (k4 _ _ w2), rfl, _, _, rfl, _, _, rfl, rfl, rfl, ?_⟩
      refine ⟨_, rfl, acc, b1, ?_, acc ++ [.ref n'], upd_same, ?_, fun c o e => ?_, by omega⟩
      · have := b2.len
        rw [List.length_take] at this
        omega
      · rw [take_more hx]
        exact b2.app w3
      · rw [upd_ne (ne_of_none e hD5)]
        exact k4 c o e
    rintro G2 ⟨acc, b1, b2, k4, _⟩
    have hallo : ord.take gys.length = ord := by
      rw [hgl]
      exact List.take_of_length_le (Nat.le_refl _)
    rw [hallo] at b2
    have kW : Same H3 G2 := Same.trans t1 k4
    replace b2 := b2.mono fun b u z => k4 _ _ z
    refine ⟨"<", rfl, by decide +kernel, fun H4 l4 s4 n4 h4 => ?_⟩
    have eb : zT (Str.ofString "<") = [60] := by decide +kernel
    rw [eb] at h4
    have kZ : Same H3 H4 := Same.trans kW s4
    have hpZ := kZ _ _ hp3
    have cZ : Chg p H H4 := c3.trans (Same.chg kZ)
    have kY : Same H4 H4 := fun _ _ z => z
    refine ⟨_, rfl, p, dx, _, rfl, hpZ, rfl, _, rfl, _, rfl, ?_⟩
    refine ⟨p, dx, a, D5, xs, acc, vs, .alt v1.1 v1.2, ord, ks, rfl, hpZ, cZ.seq hp hS, hR.mono (cZ.kps hp), hA, hhead, hsame, rfl, SqL.of (s4 _ _ b1), b2.mono fun b u z => s4 _ _ z, osub, by omega, fun i => ?_, es, fun H7 l7 c7 hp7 n7 h7 => ?_⟩
    · have := (gl (ord.take i) (ond.sublist (List.take_sublist i ord)) fun x hx => List.mem_of_mem_take hx).2
      omega
    refine ⟨l4, l7, _, _, rfl, rfl, c7 _ _ (kY _ _ h4) (ne_of (kY _ _ h4) hpZ (by intro z; cases z)), h7, ?_, fun p8 hp8 => ?_⟩
    · simp only [List.length_map, List.length_cons, List.length_nil]
      omega
    have s8 := same_new (H := H7) (o := .lst (vT [60] ++ vT (ft (fl vs ks ord)))) hp8
    refine ⟨">", rfl, by decide +kernel, fun H9 l9 s9 n9 h9 => ?_⟩
    have ec : zT (Str.ofString ">") = [62] := by decide +kernel
    rw [ec] at h9
    refine ⟨p8, l9, _, _, rfl, rfl, s9 _ _ upd_same, h9, ?_, fun p10 hp10 => ?_⟩
    · simp only [List.length_append, List.length_map, List.length_cons, List.length_nil]
      omega
    have s10 := same_new (H := H9) (o := .lst ((vT [60] ++ vT (ft (fl vs ks ord))) ++ vT [62])) hp10
    have k10 := Same.trans s8 s9
    have hpE := s10 _ _ (k10 _ _ hp7)
    have cE : Chg p H H7 := (c3.trans (Same.chg kZ)).trans c7
    have nE : H p10 = none := frC cE hp7 k10 (Same.fresh k10 hp10)
    have hlk : leavesKind (.group true (Vacolo.numbered (fl vs ks ord))) = lv (fl vs ks ord) := by rw [leavesKind]
    refine ⟨_, rfl, p, _, dx, _, rfl, hpE, tclK T, tnx T, (by show 1 < 1000; decide), ?_⟩
    have := fin _ p10 (cE.trans (Same.chg (Same.trans k10 s10))) nE (by rw [hlk]; exact hpE) (by
      rw [upd_same, showKind, ← vT_app, ← vT_app]
      rfl)
    rw [hlk] at this
    exact this
  · rw [found_mix _ hv hu hne] at hf
    cases hf
theorem ok_ft0 (T : Txt K mg) : DefOk P w K mg base CX0 4 (He.ma K (CKi K) "fields_text") ["self", "values", "names"] (spFTV K 0) := by
  obtain ⟨fd, F⟩ := dT T defsB (.inr (.inl rfl)) 12 rfl
  exact ⟨fd, F.ok (k := 3) sc_K_fields_text (fun vs H Q E h => h.elim) (fun cdv A outer s H vs Q E hr h => h.elim), bind3 F fun _ _ _ _ _ _ _ _ _ => rfl, F.kp⟩
theorem ok_kinds (T : Txt K mg) : ∀ n, DefOk P w K mg base CX0 (3 * n + 5) (aKi K) ["self", "values"] (spK K n)
  | 0 => ok_K_init T (Nat.le_refl _) (ok_ft0 T)
  | n + 1 => ok_K_init (k := 3 * n + 7) T (by omega) (ok_K_fields_text (k := 3 * n + 5) T (by omega) (ok_kinds T n))
end SF
end -- S12

section -- S13
set_option Elab.async false
set_option linter.all false
set_option maxRecDepth 100000
set_option maxHeartbeats 8000000
/-! # S13: schema_of -/
namespace SF
open PySem PySem.Spec PyProof.Rows L2
open Vacolo (Loose found schemaOf)
open Vacola (decimal showMode showKind leavesKind showSchema)
variable {P : Program} {w : World} {K : PySem.W.Frag} {mg : Str → Option Value} {base : Heap}
def spSchema (K : PySem.W.Frag) : Sp := fun vs H Q E => ∃ (a : Addr) (xs : List V) (rs : List (List (List Nat × List Loose))), vs = [.ref a] ∧ SqL K H a xs ∧ RLs H xs (rs.map Loose.record) ∧ AskAt 7 (rs.map Loose.record) ∧
  (∀ fs, schemaOf (rs.map Loose.record) = .ok fs → NewB H Q (showSchema fs)) ∧ (∀ c, schemaOf (rs.map Loose.record) = .error c → ClsR K c H E)
theorem sc_schema_of : FnScope ["rows", "kind"] ["rows"] (defScope s_schema_of) := ⟨rfl, rfl, rfl, by decide +kernel, rfl, by decide +kernel, by decide +kernel⟩
theorem rec_group {d : Nat} {rs : List (List (List Nat × List Loose))} (hn : ∀ r ∈ rs, (r.map Prod.fst).Nodup) (h : rs ≠ []) {k : Vacola.Kind} (hf : found (d + 1) (rs.map Loose.record) = .ok k) : ∃ fs, k = .group false fs := by
  rw [found_recG h hn] at hf
  cases e : subs d (rs.map .record) with
  | error c =>
    rw [e] at hf
    cases hf
  | ok ks =>
    rw [e] at hf
    dsimp only at hf
    split at hf
    · cases hf
    · cases hf
      exact ⟨_, rfl⟩
theorem ok_schema_of (T : Txt K mg) : DefOk P w K mg base (CXk P w) 30 (He.ga K "schema_of") ["rows"] (spSchema K) := by
  obtain ⟨fd, F⟩ := dT T defsB (.inr (.inl rfl)) 13 rfl
  refine ⟨fd, ?_, bind1 F fun _ _ _ _ _ _ _ => rfl, F.kp⟩
  have nd := sc_schema_of.nd
  have mlen := T.free "len" (by decide +kernel)
  refine okK F sc_schema_of (fun vs H Q E h => by obtain ⟨a, xs, vals, rfl, _⟩ := h; rfl) (fun cdv A outer s H vs Q E hr h => ⟨_,
    (pss_cons (ps_expr (pcall (ok_asks T 7 (by omega)) (hr.mono (by omega)) (T.glo "ask_together" (by decide +kernel)) (passk rfl rfl rfl ⟨_, rfl⟩) (pa_cons (pv 0) pa_nil)))
    (pss_cons (ps_set (i := 1) nd rfl (.inl rfl) (pmake (ok_kinds T 7) (T.cls "Kind" (by decide +kernel)).2 (hr.mono (by omega)) (T.glo "Kind" (by decide +kernel)) pass0 (pa_cons (pv 0) pa_nil)))
    (pss_cons (ps_if (pt_cmpR op_gt (pe_fld (pv 1) rfl) (pgi (T.int ("MOST_LEAVES", 40) (by decide +kernel))) (nomark _)) (pss_one (ps_clashN rfl (takesN rfl rfl rfl ⟨_, rfl⟩) T (hr.mono (by omega)) (pa_cons (pgi (T.int ("TOO_MANY", 3) (by decide +kernel))) (pa_cons (pe_lst pa_nil) pa_nil)))) pss_nil)
    (pss_cons (ps_if (pt_cmpR op_gt (pe_callB (r := fun xs H Q => ∃ a ys, xs = [V.ref a] ∧ (SqL K H a ys ∨ SqT K H a ys) ∧ Q (.int ys.length) H) call_len_seq rfl mlen PySem.boot_len (pa_cons (pe_fld (pv 1) rfl) pa_nil)) (pgi (T.int ("MOST_SCHEMA", 2000) (by decide +kernel))) (nomark _)) (pss_one (ps_clashN rfl (takesN rfl rfl rfl ⟨_, rfl⟩) T (hr.mono (by omega)) (pa_cons (pgi (T.int ("TOO_LONG_schemas", 4) (by decide +kernel))) (pa_cons (pe_lst pa_nil) pa_nil)))) pss_nil)
    (pss_one (ps_ret (pe_fld (pv 1) rfl))))))), ?_⟩)
  obtain ⟨a, xs, rs, rfl, hS, hR, hA, q1, q2⟩ := h
  have hne : rs ≠ [] := fun z => hA.ne (by rw [z]; rfl)
  refine ⟨_, rfl, a, xs, _, rfl, hS, hR, hA, fun kk hk H1 s1 => ?_, fun c hc => q2 c (by unfold schemaOf; rw [hc])⟩
  obtain ⟨fs, rfl⟩ := rec_group (wf_nd hA.wf) hne hk
  have hso : schemaOf (rs.map Loose.record) = if Vacolo.LEAVES < leavesKind (.group false fs) then .error { number := 3, path := [] } else if Vacolo.LENGTH < (showSchema fs).length then .error { number := 4, path := [] } else .ok fs := by
    unfold schemaOf
    rw [hk]
  refine ⟨_, rfl, fun x dxx hx hdx hnx => ?_⟩
  have sx : Same H1 (upd (upd H1 dxx (.own x)) x (.ins (CKi K) dxx [])) := fun b u e => by
    rw [upd_ne (ne_of_none e hx), upd_ne (ne_of_none e hdx)]
    exact e
  refine ⟨x, dxx, a, xs, _, _, rfl, upd_same, (Same.trans s1 sx).seq hS, hR.mono (fun c u w _ => sx _ _ (s1 _ _ w)), hA, hk, fun H2 t ch nt hx2 ht => ⟨rfl, ?_⟩⟩
  have s2 : Same H H2 := fun b u e => ch _ _ (sx _ _ (s1 _ _ e)) (ne_of_none (s1 _ _ e) hx)
  have nt1 : H t = none := Same.fresh (Same.trans s1 sx) nt
  refine ⟨_, rfl, x, _, _, _, _, rfl, hx2, tclK T, tnl T, lk_here, _, _, rfl, rfl, _, rfl, ifb (fun c => ?_) fun c => ?_⟩
  · have c' := of_decide_eq_true c
    have : Vacolo.LEAVES < leavesKind (.group false fs) := by
      unfold Vacolo.LEAVES
      omega
    rw [if_pos this] at hso
    exact clash_none (q2 _ hso) s2
  have c' := of_decide_eq_false c
  have n1 : ¬ Vacolo.LEAVES < leavesKind (.group false fs) := by
    unfold Vacolo.LEAVES
    omega
  rw [if_neg n1] at hso
  have lt : (kF (leavesKind (.group false fs)) t).lookup ("text" : Str) = some (.ref t) := (lk_past (by decide +kernel)).trans lk_here
  refine ⟨_, rfl, x, _, _, _, _, rfl, hx2, tclK T, tnx T, lt, t, _, rfl, .inl (SqL.of ht), _, _, rfl, rfl, _, rfl, ifb (fun c => ?_) fun c => ?_⟩
  · have c'' := of_decide_eq_true c
    have : Vacolo.LENGTH < (showSchema fs).length := by
      unfold Vacolo.LENGTH
      rw [List.length_map] at c''
      show 2000 < (showKind (.group false fs)).length
      omega
    rw [if_pos this] at hso
    exact clash_none (q2 _ hso) s2
  · have c'' := of_decide_eq_false c
    have : ¬ Vacolo.LENGTH < (showSchema fs).length := by
      unfold Vacolo.LENGTH
      rw [List.length_map] at c''
      show ¬ 2000 < (showKind (.group false fs)).length
      omega
    rw [if_neg this] at hso
    exact ⟨_, rfl, x, _, _, _, _, rfl, hx2, tclK T, tnx T, lt, q1 fs hso H2 t s2 nt1 ht⟩
end SF
end -- S13

section -- S14
set_option Elab.async false
set_option linter.all false
set_option maxRecDepth 100000
set_option maxHeartbeats 8000000
/-! # S14: Rows.clash_with -/
namespace SF
open PySem PySem.Spec PyProof.Rows L2
open Vacolo (Loose found schemaOf)
variable {P : Program} {w : World} {K : PySem.W.Frag} {mg : Str → Option Value} {base : Heap}
abbrev CRo (K : PySem.W.Frag) : Addr := He.ga K "Rows"
abbrev hF (a b : Addr) : List (Str × V) := [("texts", .ref a), ("records", .ref b)]
def clashOf (rs : List (List (List Nat × List Loose))) : Nat × List (List Nat) := match schemaOf (rs.map Loose.record) with
  | .ok _ => (0, [])
  | .error c => (c.number, c.path)
def spClash (K : PySem.W.Frag) : Sp := fun vs H Q _ => ∃ (p dx a b : Addr) (x : V) (rx : List V) (rs : List (List (List Nat × List Loose))) (r : List (List Nat × List Loose)), vs = [.ref p, x] ∧ H p = some (.ins (CRo K) dx (hF a b)) ∧ H b = some (.lst rx) ∧ RLs H rx (rs.map Loose.record) ∧ RL H x (.record r) ∧
  AskAt 7 ((rs ++ [r]).map Loose.record) ∧ rx.length ≤ 1000 ∧
  ∀ H' t l ys, Same H H' → H' t = some (.tup [.int ((clashOf (rs ++ [r])).1 : Nat), .ref l]) → H' l = some (.lst ys) → Nms H' ys (clashOf (rs ++ [r])).2 → Q (.ref t) H'
theorem tclH (T : Txt K mg) : Cls K (CRo K) := (T.cls "Rows" (by decide +kernel)).1
theorem tnr (T : Txt K mg) : NoAttr K (CRo K) "records" := T.noat ("Rows", "records") (by decide +kernel)
theorem tnt2 (T : Txt K mg) : NoAttr K (CRo K) "texts" := T.noat ("Rows", "texts") (by decide +kernel)
theorem hF_rec {a b : Addr} : (hF a b).lookup ("records" : Str) = some (.ref b) := (lk_past (by decide +kernel)).trans lk_here
theorem hF_txt {a b : Addr} : (hF a b).lookup ("texts" : Str) = some (.ref a) := lk_here
theorem sc_H_clash_with : FnScope ["self", "value", "e"] ["self", "value"] (defScope s_H_clash_with) := ⟨rfl, rfl, rfl, by decide +kernel, rfl, by decide +kernel, by decide +kernel⟩
theorem pe_fldK {X : Cx} {e : Expr} {ta : TE} {f : Str} {pos : Pos} (hK : X.K = K) (he : PE X e ta) (hb : attributeBase e f X.env (eval e X.env) = eval e X.env) : PE X (.Attribute e f pos) (tFld K ta f) := by
  subst hK
  exact pe_fld he hb
abbrev cxN (P : Program) (w : World) (K : PySem.W.Frag) (mg : Str → Option Value) (base : Heap) (cdv : Value) (A : Around) (outer : List Env) (s : Shared) (H : Hp) (E : XK) : Cx := (cxOf CX0 P w K mg base ["self", "value", "e"] "Rows.clash_with" (defScope s_H_clash_with) (He.ma K (CRo K) "clash_with") cdv A outer s H E).nox
theorem ok_H_clash_with (T : Txt K mg) : DefOk P w K mg base CX0 31 (He.ma K (CRo K) "clash_with") ["self", "value"] (spClash K) := by
  obtain ⟨fd, F⟩ := dT T defsC (.inr (.inr rfl)) 3 rfl
  refine ⟨fd, ?_, bind2 F fun _ _ _ _ _ _ _ _ => rfl, F.kp⟩
  have nd := sc_H_clash_with.nd
  obtain ⟨c1, c2, c3, c4, c5⟩ := T.exc "Clash" (by decide +kernel)
  obtain ⟨fdS, FS, bS, kS⟩ := (ok_schema_of (P := P) (w := w) (base := base) T).ex
  refine F.ok sc_H_clash_with (fun vs H Q E h => by obtain ⟨p, dx, a, b, x, rx, rs, r, rfl, _⟩ := h; rfl) (fun cdv A outer s H vs Q E hr h => ⟨_,
    (pss_cons (ps_try_as (x := "Clash") (n := "e") (i := 2) (c := .ref (CC K)) rfl rfl nd rfl rfl ⟨rfl, by decide, .inl (T.glo "Clash" (by decide +kernel))⟩ takes0
        (fun W pn xe tk po => (pss_one (ps_expr (pe_callS (E := WE W) FS hr rfl (T.glo "schema_of" (by decide +kernel)) kS bS (fun σ pins H1 s1 e s' I c => passAt tk σ pins H1 s1 e s' I c.plain) (pa_cons (pe_op op_cat (pe_fldK rfl (pv 0) rfl) (pe_lst (pa_cons (pv 1) pa_nil))) pa_nil)))))
        (fun a oe cls d pn hz hd => (pss_one (ps_ret (pe_tup (pa_cons (pe_xf (X := cxN P w K mg base cdv A outer s H E) (C := CC K) (d := d) (cls := cls) (n := "number") c2 (T.noat ("Clash", "number") (by decide +kernel)) hz hd (pv 2)) (pa_cons (pe_xf (X := cxN P w K mg base cdv A outer s H E) (C := CC K) (d := d) (cls := cls) (n := "path") c2 (T.noat ("Clash", "path") (by decide +kernel)) hz hd (pv 2)) pa_nil)))))))
    (pss_one (ps_ret (pe_tup (pa_cons (pe_int) (pa_cons (pe_lst pa_nil) pa_nil)))))), ?_⟩)
  obtain ⟨p, dx, a, b, x, rx, rs, r, rfl, hp, hb, hR, hx, hA, hlen, q⟩ := h
  refine ⟨_, rfl, p, _, dx, _, _, rfl, hp, tclH T, tnr T, hF_rec, _, rfl, (by show 1 ≤ sizeLine; decide), fun l1 hl1 => ?_⟩
  have s1 := same_new (H := H) (o := .lst [x]) hl1
  refine ⟨b, l1, rx, [x], rfl, rfl, s1 _ _ hb, upd_same, ?_, fun p2 hp2 => ?_⟩
  · have hsz : sizeLine = 16777216 := rfl
    simp only [List.length_cons, List.length_nil]
    omega
  have s2 := same_new (H := upd H l1 (.lst [x])) (o := .lst (rx ++ [x])) hp2
  have k2 := Same.trans s1 s2
  refine ⟨p2, rx ++ [x], rs ++ [r], rfl, SqL.of upd_same, ?_, hA, fun fs hso H3 t s3 nt ht => ?_, fun c hc d H3 l ys hd hd3 hl hN k3 => ?_⟩
  · rw [List.map_append]
    exact (hR.mono fun c u w _ => k2 _ _ w).app (hx.mono fun c u w _ => k2 _ _ w)
  · have hcl : clashOf (rs ++ [r]) = (0, []) := by
      unfold clashOf
      rw [hso]
    rw [hcl] at q
    refine ⟨(by show 0 ≤ sizeLine; decide), fun l4 hl4 => ⟨(by show 2 ≤ sizeLine; decide), fun t5 ht5 => ?_⟩⟩
    have s4 := same_new (H := H3) (o := .lst []) hl4
    have s5 := same_new (H := upd H3 l4 (.lst [])) (o := .tup [.int 0, .ref l4]) ht5
    exact q _ t5 l4 [] (Same.trans (Same.trans k2 s3) (Same.trans s4 s5)) upd_same (s5 _ _ upd_same) trivial
  · have hcl : clashOf (rs ++ [r]) = (c.number, c.path) := by
      unfold clashOf
      rw [hc]
    rw [hcl] at q
    refine ⟨true, c5, fun _ e he => ?_, fun z => by cases z⟩
    refine ⟨_, rfl, rfl, rfl, d, _, _, rfl, hd3, rfl, _, rfl, rfl, rfl, d, _, _, rfl, hd3, rfl, (by show 2 ≤ sizeLine; decide), fun t5 ht5 => ?_⟩
    have s5 := same_new (H := H3) (o := .tup [.int (c.number : Nat), .ref l]) ht5
    exact q _ t5 l ys (Same.trans (Same.trans k2 k3) s5) upd_same (s5 _ _ hl) (hN.mono fun b u z => s5 _ _ z)
end SF
end -- S14

section -- S15
set_option Elab.async false
set_option linter.all false
set_option maxRecDepth 100000
set_option maxHeartbeats 8000000
/-! # S15: Rows.check -/
namespace SF
open PySem PySem.Spec PyProof.Rows L2
open LamX (CodeO TabS ExtN TabB)
open Vacolo (Loose found schemaOf readRow)
variable {P : Program} {w : World} {K : PySem.W.Frag} {mg : Str → Option Value} {base : Heap}
/-- a list of numbers is given back; the heap changes but for the table's own entries not -/
def NewS (K : PySem.W.Frag) (H : Hp) (Q : VK) (zs : List Int) : Prop := ∀ H' l, SmT K H H' → Tb K H' → H l = none → H' l = some (.lst (zs.map V.int)) → Q (.ref l) H'
theorem SmT.seq {H H' : Hp} {a : Addr} {xs : List V} (s : SmT K H H') (t : Tb K H) (hS : SqL K H a xs) : SqL K H' a xs := by
  obtain ⟨ps, ht, _⟩ := t
  rcases hS with (h | ⟨o, h⟩) | h
  · exact .inl (.inl (s a _ h (ne_of h ht (by intro z; cases z))))
  · exact .inl (.inr ⟨o, s a _ h (ne_of h ht (by intro z; cases z))⟩)
  · exact .inr h
def spCheck (K : PySem.W.Frag) : Sp := fun vs H Q _ => ∃ (p a : Addr) (t : List Nat), vs = [.ref p, .ref a] ∧ SqL K H a (vT t) ∧ Tb K H ∧ NewS K H Q [((Vacolo.verdict t).1 : Nat), ((Vacolo.verdict t).2 : Nat)]
theorem sc_H_check : FnScope ["self", "text", "e"] ["self", "text"] (defScope s_H_check) := ⟨rfl, rfl, rfl, by decide +kernel, rfl, by decide +kernel, by decide +kernel⟩
abbrev cxC (P : Program) (w : World) (K : PySem.W.Frag) (mg : Str → Option Value) (base : Heap) (cdv : Value) (A : Around) (outer : List Env) (s : Shared) (H : Hp) (E : XK) : Cx := (cxOf CX0 P w K mg base ["self", "text", "e"] "Rows.check" (defScope s_H_check) (He.ma K (CRo K) "check") cdv A outer s H E).nox
theorem ok_H_check (T : Txt K mg) (TB : TabB base mg (He.cT K dStr).1 (He.cT K dStr).2) : DefOk P w K mg base CX0 51 (He.ma K (CRo K) "check") ["self", "text"] (spCheck K) := by
  obtain ⟨fd, F⟩ := dT T defsC (.inr (.inr rfl)) 2 rfl
  refine ⟨fd, ?_, bind2 F fun _ _ _ _ _ _ _ _ => rfl, F.kp⟩
  have nd := sc_H_check.nd
  have mlen := T.free "len" (by decide +kernel)
  obtain ⟨c1, c2, c3, c4, c5⟩ := T.exc "Fault" (by decide +kernel)
  obtain ⟨fdS, FS, bS, kS⟩ := (ok_row_read (P := P) (w := w) (base := base) T TB).ex
  refine F.ok sc_H_check (fun vs H Q E h => by obtain ⟨p, a, t, rfl, _⟩ := h; rfl) (fun cdv A outer s H vs Q E hr h => ⟨_,
    (pss_cons (ps_try_as (x := "Fault") (n := "e") (i := 2) (c := .ref (CF K)) rfl rfl nd rfl rfl ⟨rfl, by decide, .inl (T.glo "Fault" (by decide +kernel))⟩ takes0
        (fun W pn xe tk po => (pss_one (ps_expr (pe_callS (E := WE W) FS hr rfl (T.glo "row_read" (by decide +kernel)) kS bS (fun σ pins H1 s1 e s' I c => passAt tk σ pins H1 s1 e s' I c) (pa_cons (pv 1) pa_nil)))))
        (fun a oe cls d pn hz hd => (pss_one (ps_ret (pe_lst (pa_cons (pe_xf (X := cxC P w K mg base cdv A outer s H E) (C := CF K) (d := d) (cls := cls) (n := "kind") c2 (T.noat ("Fault", "kind") (by decide +kernel)) hz hd (pv 2)) (pa_cons (pe_xf (X := cxC P w K mg base cdv A outer s H E) (C := CF K) (d := d) (cls := cls) (n := "place") c2 (T.noat ("Fault", "place") (by decide +kernel)) hz hd (pv 2)) pa_nil)))))))
    (pss_one (ps_ret (pe_lst (pa_cons (pe_int) (pa_cons (pe_callB (r := fun xs H Q => ∃ a ys, xs = [V.ref a] ∧ (SqL K H a ys ∨ SqT K H a ys) ∧ Q (.int ys.length) H) call_len_seq rfl mlen PySem.boot_len (pa_cons (pv 1) pa_nil)) pa_nil)))))), ?_⟩)
  obtain ⟨p, a, t, rfl, hS, tb, q⟩ := h
  refine ⟨_, rfl, a, t, rfl, hS, tb, fun v hv H1 x s1 t1 _ => ?_, fun f hf d H1 hd hd1 s1 t1 => ?_⟩
  · refine ⟨_, rfl, a, _, rfl, .inl (s1.seq tb hS), (by show 2 ≤ sizeLine; decide), fun l hl => ?_⟩
    have s2 := same_new (H := H1) (o := .lst [V.int 0, V.int ((vT t).length : Nat)]) hl
    refine q _ l (s1.trans (Same.t s2)) (Tb.same t1 s2) (SmT.fresh s1 t1 hl) ?_
    rw [upd_same]
    unfold Vacolo.verdict
    rw [hv]
    show some (HO.lst [V.int 0, V.int ((vT t).length : Nat)]) = _
    rw [List.length_map]
    rfl
  · refine ⟨true, c5, fun _ e he => ?_, fun z => by cases z⟩
    refine ⟨_, rfl, rfl, rfl, d, _, _, rfl, hd1, rfl, _, rfl, rfl, rfl, d, _, _, rfl, hd1, rfl, (by show 2 ≤ sizeLine; decide), fun l hl => ?_⟩
    have s2 := same_new (H := H1) (o := .lst [V.int (f.kind : Nat), V.int ((t.length - f.left : Nat) : Int)]) hl
    refine q _ l (s1.trans (Same.t s2)) (Tb.same t1 s2) (SmT.fresh s1 t1 hl) ?_
    rw [upd_same]
    unfold Vacolo.verdict
    rw [hf]
    rfl
end SF
end -- S15

section -- Z1
set_option Elab.async false
set_option linter.all false
set_option maxRecDepth 100000
set_option maxHeartbeats 2000000
/-! # Z1: rows that were taken may be asked together: weights by their texts -/
namespace SF
open Vacola (Text Leaf Mode Head Kind Fields decimal decimalInt showStr digitsBefore)
open Vacolb (joinWith)
open Vacolo
theorem wf_mono : ∀ (n : Nat) (v : Loose), wf n v → wf (n + 1) v
  | n, .num z, h => wf_num.mpr (wf_num.mp h)
  | n, .str s, h => wf_str.mpr (wf_str.mp h)
  | 0, .record fs, h => False.elim h
  | 0, .alt m v, h => False.elim h
  | n + 1, .record fs, h => wf_rec.mpr ⟨(wf_rec.mp h).1, fun x hx => ⟨((wf_rec.mp h).2 x hx).1, ((wf_rec.mp h).2 x hx).2.1, fun v hv => wf_mono n v (((wf_rec.mp h).2 x hx).2.2 v hv)⟩⟩
  | n + 1, .alt m v, h => wf_alt.mpr ⟨(wf_alt.mp h).1, wf_mono n v (wf_alt.mp h).2⟩
theorem digits_pos : ∀ (f n : Nat) (acc : Text), 1 ≤ acc.length ∨ 1 ≤ f → 1 ≤ (digitsBefore f n acc).length
  | 0, n, acc, h => by
    rw [digitsBefore]
    omega
  | f + 1, n, acc, h => by
    rw [digitsBefore]
    split
    · simp
    · exact digits_pos f _ _ (.inl (by simp))
theorem decimalInt_pos (z : Int) : 1 ≤ (decimalInt z).length := by
  unfold decimalInt
  split
  · simp
  · exact digits_pos _ _ _ (.inr (by omega))
theorem join_len (c : Nat) : ∀ l : List Text, (l.map List.length).sum ≤ (joinWith c l).length
  | [] => Nat.le_refl _
  | [s] => by simp [joinWith]
  | s :: t :: l => by
    rw [join_cons c s (t :: l) (by simp), List.map_cons, List.sum_cons, List.length_append, List.length_cons]
    have := join_len c (t :: l)
    omega
theorem sum_le {A : Type} {f g : A → Nat} : ∀ {l : List A}, (∀ a ∈ l, f a ≤ g a) → (l.map f).sum ≤ (l.map g).sum
  | [], _ => Nat.le_refl _
  | a :: l, h => by
    rw [List.map_cons, List.sum_cons, List.map_cons, List.sum_cons]
    have := sum_le (l := l) fun x hx => h x (List.mem_cons_of_mem _ hx)
    have := h a List.mem_cons_self
    omega
theorem wt_num (d : Nat) (z : Int) : wt d (.num z) = 1 := by cases d <;> rfl
theorem wt_str (d : Nat) (s : Text) : wt d (.str s) = 1 := by cases d <;> rfl
theorem wt_show : ∀ (e d D : Nat) (v : Loose), wf e v → e ≤ D → wt d v ≤ (showLoose D v).length
  | e, d, D, .num z, h, hd => by
    rw [wt_num, show_num]
    exact decimalInt_pos z
  | e, d, D, .str s, h, hd => by
    rw [wt_str, show_str]
    simp [showStr]
  | 0, d, D, .record fs, h, hd => False.elim h
  | 0, d, D, .alt m v, h, hd => False.elim h
  | e + 1, 0, D, .record fs, h, hd => by
    cases D with
    | zero => omega
    | succ D =>
      rw [show_rec]
      simp [wt]
  | e + 1, 0, D, .alt m v, h, hd => by
    cases D with
    | zero => omega
    | succ D =>
      rw [show_alt]
      simp [wt]
  | e + 1, d + 1, D, .alt m v, h, hd => by
    cases D with
    | zero => omega
    | succ D =>
      rw [show_alt]
      have := wt_show e d D v (wf_alt.mp h).2 (by omega)
      simp [wt]
      omega
  | e + 1, d + 1, D, .record fs, h, hd => by
    cases D with
    | zero => omega
    | succ D =>
      rw [show_rec, List.length_cons, List.length_append]
      have h1 := join_len 59 (fs.map (showF D))
      rw [List.map_map] at h1
      have h2 : (fs.map fun x => 1 + (x.2.map (wt d)).sum).sum ≤ (fs.map (List.length ∘ showF D)).sum := by
        refine sum_le fun x hx => ?_
        obtain ⟨g, ne, hv⟩ := (wf_rec.mp h).2 x hx
        show _ ≤ (showF D x).length
        unfold showF
        rw [List.length_append, List.length_cons]
        have h3 := join_len 44 (x.2.map fun v => showLoose D v)
        rw [List.map_map] at h3
        have h4 : (x.2.map (wt d)).sum ≤ (x.2.map (List.length ∘ fun v => showLoose D v)).sum := sum_le fun v hv' => wt_show e d D v (hv v hv') (by omega)
        have h5 : (x.2.map (wt d)).sum ≤ (x.2.map (fun v => wt d v)).sum := Nat.le_refl _
        omega
      show 1 + (fs.map fun x => 1 + (x.2.map (wt d)).sum).sum ≤ _
      simp only [List.length_singleton]
      omega
theorem sum_const {A : Type} {f : A → Nat} {c : Nat} : ∀ {l : List A}, (∀ a ∈ l, f a ≤ c) → (l.map f).sum ≤ c * l.length
  | [], _ => Nat.le_refl _
  | a :: l, h => by
    rw [List.map_cons, List.sum_cons, List.length_cons, Nat.mul_add, Nat.mul_one]
    have := sum_const (l := l) fun x hx => h x (List.mem_cons_of_mem _ hx)
    have := h a List.mem_cons_self
    omega
/-- a row that was taken -/
def RowP (r : List (List Nat × List Loose)) : Prop := wf 6 (.record r) ∧ (showRow (.record r)).length ≤ 4000
theorem ask_rows {rs : List (List (List Nat × List Loose))} (hne : rs ≠ []) (hl : rs.length ≤ 101) (h : ∀ r ∈ rs, RowP r) : AskAt 7 (rs.map .record) := by
  refine ⟨by simpa using hne, fun v hv => ?_, ?_⟩
  · obtain ⟨r, hr, rfl⟩ := List.mem_map.mp hv
    exact wf_mono _ _ (h r hr).1
  · show ((rs.map .record).map (wt 7)).sum ≤ 500000
    rw [List.map_map]
    have := sum_const (c := 4000) (f := wt 7 ∘ .record) (l := rs) fun r hr => Nat.le_trans (wt_show 6 7 8 _ (h r hr).1 (by omega)) (h r hr).2
    omega
theorem row_taken {t : Text} {v : Loose} (h : readRow t = .ok v) : ∃ r, v = .record r ∧ RowP r ∧ showRow (.record r) = t := by
  obtain ⟨h1, h2, h3, r, rfl⟩ := readRow_ok h
  refine ⟨r, rfl, ⟨h2, ?_⟩, h1⟩
  rw [h1]
  exact h3
end SF
end -- Z1

section -- Z2
set_option Elab.async false
set_option linter.all false
set_option maxRecDepth 100000
set_option maxHeartbeats 2000000
/-! # Z2: rows left out: what goes together still goes together, and the schema is no longer -/
namespace SF
open Vacola (Text Leaf Mode Head Kind Fields showKind showFields showHead showDefault showMode showLeaf leavesKind leavesFields decimal digitsBefore)
open Vacolo
/-! ### orders -/
/-- an order suits rows -/
def Suits (rows : List (List Text)) : List Text → Prop
  | [] => True
  | n :: l => (∀ r ∈ rows, n ∈ r → ∀ m ∈ r.takeWhile (fun m => m != n), m ∉ l) ∧ Suits rows l
theorem free_iffZ {rows : List (List Text)} {left : List Text} {n : Text} : free rows left n = true ↔ ∀ r ∈ rows, n ∈ r → ∀ m ∈ r.takeWhile (fun m => m != n), m ∉ left := by
  unfold free
  rw [List.all_eq_true]
  constructor
  · intro h r hr hn m hm
    have := h r hr
    rw [Bool.or_eq_true] at this
    rcases this with z | z
    · simp [hn] at z
    · have := List.all_eq_true.mp z m hm
      simpa using this
  · intro h r hr
    rw [Bool.or_eq_true]
    by_cases hn : n ∈ r
    · right
      rw [List.all_eq_true]
      intro m hm
      simpa using h r hr hn m hm
    · left
      simpa using hn
theorem suits_of {rows : List (List Text)} : ∀ {k : Nat} {left o : List Text}, inOrder rows k left = some o → Suits rows o
  | k, [], o, h => by
    cases k <;> (rw [inOrder] at h; cases h; exact trivial)
  | 0, a :: left, o, h => by
    rw [inOrder] at h
    cases h
    simp
  | k + 1, a :: left, o, h => by
    rw [inOrder] at h
    · split at h
      · cases h
      · rename_i n hn
        obtain ⟨l, h1, h2⟩ := Option.map_eq_some_iff.mp h
        subst h2
        refine ⟨fun r hr hnr m hm hml => ?_, suits_of h1⟩
        have hf := free_iffZ.mp (List.find?_some hn) r hr hnr m hm
        exact hf (List.mem_filter.mp ((order_sub h1).1 m hml)).1
    · simp
theorem free_some {rows rows' : List (List Text)} (hr : ∀ r ∈ rows', r ∈ rows) : ∀ {o left : List Text}, Suits rows o → left ≠ [] → (∀ x ∈ left, x ∈ o) → ∃ n ∈ left, free rows' left n = true
  | [], left, _, hne, hs => by
    cases left with
    | nil => exact absurd rfl hne
    | cons a l => exact absurd (hs a List.mem_cons_self) (by simp)
  | n :: o, left, hsu, hne, hs => by
    by_cases hn : n ∈ left
    · refine ⟨n, hn, free_iffZ.mpr fun r h1 h2 m h3 h4 => ?_⟩
      rcases List.mem_cons.mp (hs m h4) with z | z
      · have := mem_takeWhile_imp' h3
        subst z
        simp at this
      · exact hsu.1 r (hr r h1) h2 m h3 z
    · exact free_some hr hsu.2 hne fun x hx => by
        rcases List.mem_cons.mp (hs x hx) with z | z
        · exact absurd (z ▸ hx) hn
        · exact z
where
  mem_takeWhile_imp' {p : Text → Bool} : ∀ {l : List Text} {x : Text}, x ∈ l.takeWhile p → p x = true
    | a :: l, x, h => by
      rw [List.takeWhile_cons] at h
      split at h
      · rcases List.mem_cons.mp h with z | z
        · subst z
          assumption
        · exact mem_takeWhile_imp' z
      · cases h
theorem order_go {rows rows' : List (List Text)} (hr : ∀ r ∈ rows', r ∈ rows) {o : List Text} (hsu : Suits rows o) : ∀ (k : Nat) (left : List Text), left.length ≤ k → left.Nodup → (∀ x ∈ left, x ∈ o) → ∃ o', inOrder rows' k left = some o'
  | k, [], _, _, _ => by
    refine ⟨[], ?_⟩
    cases k <;> rw [inOrder]
  | 0, a :: left, h, _, _ => absurd h (by simp)
  | k + 1, a :: left, h, hnd, hs => by
    obtain ⟨n0, h1, h2⟩ := free_some hr hsu (List.cons_ne_nil a left) hs
    cases e : (a :: left).find? (free rows' (a :: left)) with
    | none => exact absurd h2 (List.find?_eq_none.mp e n0 h1)
    | some n =>
      have hm := List.mem_of_find?_eq_some e
      have hlen : ((a :: left).filter fun m => m != n).length ≤ k := by
        have : ((a :: left).filter fun m => m != n).length < (a :: left).length := by
          rw [List.length_filter_lt_length_iff_exists]
          exact ⟨n, hm, by simp⟩
        rw [List.length_cons] at h this
        omega
      obtain ⟨l, hl⟩ := order_go hr hsu k _ hlen (hnd.sublist List.filter_sublist) fun x hx => hs x (List.mem_filter.mp hx).1
      refine ⟨n :: l, ?_⟩
      rw [inOrder, e]
      · show (inOrder rows' k ((a :: left).filter fun m => m != n)).map (fun l => n :: l) = _
        rw [hl]
        rfl
      · simp
/-! ### leaves -/
theorem decimal_mono : ∀ (f g n m : Nat) (acc acc' : Text), n ≤ m → n < f → m < g → acc.length ≤ acc'.length → (digitsBefore f n acc).length ≤ (digitsBefore g m acc').length
  | 0, _, n, m, acc, acc', _, h, _, _ => absurd h (Nat.not_lt_zero _)
  | f + 1, 0, n, m, acc, acc', _, _, h, _ => absurd h (Nat.not_lt_zero _)
  | f + 1, g + 1, n, m, acc, acc', h, hf, hg, ha => by
    rw [digitsBefore, digitsBefore]
    by_cases h1 : n < 10
    · rw [if_pos h1]
      by_cases h2 : m < 10
      · rw [if_pos h2]
        simpa using ha
      · rw [if_neg h2]
        have : ∀ (f n : Nat) (a : Text), a.length ≤ (digitsBefore f n a).length := by
          intro f
          induction f with
          | zero => intro n a; rw [digitsBefore]; exact Nat.le_refl _
          | succ f ih =>
            intro n a
            rw [digitsBefore]
            split
            · simp
            · exact Nat.le_trans (by simp) (ih _ _)
        refine Nat.le_trans ?_ (this _ _ _)
        simpa using ha
    · rw [if_neg h1, if_neg (by omega)]
      exact decimal_mono f g (n / 10) (m / 10) _ _ (Nat.div_le_div_right h) (by omega) (by omega) (by simpa using ha)
theorem dec_mono {n m : Nat} (h : n ≤ m) : (decimal n).length ≤ (decimal m).length := decimal_mono _ _ _ _ _ _ h (by omega) (by omega) (Nat.le_refl _)
theorem dec_pos (n : Nat) : 1 ≤ (decimal n).length := digits_pos _ _ _ (.inr (by omega))
/-- the least n -/
def numN (zs : List Int) : Nat := ((List.range 65).find? fun n => decide (2 ≤ n) && zs.all (inBits n)).getD 64
theorem find_range {p : Nat → Bool} : ∀ {k n : Nat}, (List.range k).find? p = some n → p n = true ∧ n < k ∧ ∀ m, m < n → p m = false := by
  intro k n h
  rw [List.find?_range_eq_some] at h
  obtain ⟨h1, h2, h3⟩ := h
  exact ⟨h1, List.mem_range.mp h2, fun m hm => by simpa using h3 m hm⟩
theorem numN_mono {zs ys : List Int} (h : ∀ y ∈ ys, y ∈ zs) : numN ys ≤ numN zs := by
  have up : ∀ n, (decide (2 ≤ n) && zs.all (inBits n)) = true → (decide (2 ≤ n) && ys.all (inBits n)) = true := fun n hn => by
    rw [Bool.and_eq_true] at hn ⊢
    exact ⟨hn.1, List.all_eq_true.mpr fun y hy => List.all_eq_true.mp hn.2 y (h y hy)⟩
  unfold numN
  cases e1 : (List.range 65).find? fun n => decide (2 ≤ n) && zs.all (inBits n) with
  | none =>
    cases e2 : (List.range 65).find? fun n => decide (2 ≤ n) && ys.all (inBits n) with
    | none => exact Nat.le_refl _
    | some m =>
      have := (find_range e2).2.1
      show m ≤ 64
      omega
  | some n =>
    obtain ⟨a1, a2, a3⟩ := find_range e1
    cases e2 : (List.range 65).find? fun n => decide (2 ≤ n) && ys.all (inBits n) with
    | none =>
      have := List.find?_eq_none.mp e2 n (List.mem_range.mpr a2)
      exact absurd (up n a1) this
    | some m =>
      obtain ⟨b1, b2, b3⟩ := find_range e2
      show m ≤ n
      rcases Nat.lt_or_ge n m with z | z
      · have := b3 n z
        rw [up n a1] at this
        cases this
      · exact z
theorem numLeaf_mono {zs ys : List Int} (h : ∀ y ∈ ys, y ∈ zs) : (showLeaf (numLeaf ys)).length ≤ (showLeaf (numLeaf zs)).length := by
  unfold numLeaf
  by_cases h1 : (zs.all fun z => z == 0 || z == 1) = true
  · have h2 : (ys.all fun z => z == 0 || z == 1) = true := List.all_eq_true.mpr fun y hy => List.all_eq_true.mp h1 y (h y hy)
    rw [if_pos h1, if_pos h2]
    exact Nat.le_refl _
  · rw [if_neg h1]
    by_cases h2 : (ys.all fun z => z == 0 || z == 1) = true
    · rw [if_pos h2]
      simp [showLeaf]
    · rw [if_neg h2]
      show (105 :: decimal (numN ys)).length ≤ (105 :: decimal (numN zs)).length
      have := dec_mono (numN_mono h)
      simpa using this
theorem strLeaf_mono {zs ys : List Text} (h : ∀ y ∈ ys, y ∈ zs) : (showLeaf (strLeaf ys)).length ≤ (showLeaf (strLeaf zs)).length := by
  unfold strLeaf
  show (116 :: decimal _).length ≤ (116 :: decimal _).length
  rw [List.length_cons, List.length_cons]
  refine Nat.succ_le_succ (dec_mono ?_)
  rw [fold_max, fold_max zs]
  have := fold_le ys (zs.foldl (fun n s => max n s.length) 0) fun s hs => fold_ge zs s (h s hs)
  omega
end SF
end -- Z2

section -- Z3
set_option Elab.async false
set_option linter.all false
set_option maxRecDepth 100000
set_option maxHeartbeats 2000000
/-! # Z3: rows left out: what goes together still goes together, the schema no longer; an open schema is one whose text has {} -/
namespace SF
open Vacola (Text Leaf Mode Head Kind Fields showKind showFields showHead showDefault showMode showLeaf leavesKind leavesFields decimal digitsBefore showSchema)
open Vacolo
/-! ### lengths by sums -/
def preL : Nat → Nat
  | 0 => 0
  | m + 1 => preL m + ((if m = 0 then 0 else 1) + (decimal (m + 1)).length)
theorem preL_mono {a b : Nat} (h : a ≤ b) : preL a ≤ preL b := by
  induction b with
  | zero => rw [Nat.le_zero.mp h]; exact Nat.le_refl _
  | succ b ih =>
    rcases Nat.lt_or_ge a (b + 1) with z | z
    · exact Nat.le_trans (ih (by omega)) (by show preL b ≤ preL b + _; omega)
    · rw [Nat.le_antisymm h z]
      exact Nat.le_refl _
theorem rev_ind {A : Type} {p : List A → Prop} (h0 : p []) (h1 : ∀ l x, p l → p (l ++ [x])) : ∀ l, p l := by
  have go : ∀ l : List A, p l.reverse := fun l => by
    induction l with
    | nil => exact h0
    | cons x l ih =>
      rw [List.reverse_cons]
      exact h1 _ _ ih
  intro l
  have := go l.reverse
  rwa [List.reverse_reverse] at this
theorem ft_sum : ∀ l : List (Text × Mode × Kind), (ft l).length = (l.map fun x => x.1.length + 1 + (showKind x.2.2).length).sum + preL l.length := by
  refine rev_ind ?_ fun l x ih => ?_
  · rw [ft_nil]
    rfl
  · rw [ft_snoc, List.map_append, List.sum_append]
    simp only [List.length_append, List.length_cons, List.length_nil, List.map_cons, List.map_nil, List.sum_cons, List.sum_nil]
    rw [ih]
    show _ = _ + (preL l.length + ((if l.length = 0 then 0 else 1) + (decimal (l.length + 1)).length))
    have : (if l = [] then ([] : Text) else [59]).length = if l.length = 0 then 0 else 1 := by
      cases l <;> simp
    rw [this]
    omega
theorem lv_sum : ∀ l : List (Text × Mode × Kind), lv l = (l.map fun x => leavesKind x.2.2).sum := by
  refine rev_ind ?_ fun l x ih => ?_
  · exact lv_nil
  · rw [lv_snoc, List.map_append, List.sum_append, ih]
    simp
theorem sum_sub {A : Type} [BEq A] [LawfulBEq A] {f g : A → Nat} : ∀ {l' l : List A}, l'.Nodup → (∀ x ∈ l', x ∈ l) → (∀ x ∈ l', f x ≤ g x) → (l'.map f).sum ≤ (l.map g).sum
  | [], _, _, _, _ => Nat.zero_le _
  | x :: l', l, hn, hs, hf => by
    have hx := hs x List.mem_cons_self
    have p := List.perm_cons_erase hx
    have e : (l.map g).sum = ((x :: l.erase x).map g).sum := (p.map g).sum_nat
    rw [e, List.map_cons, List.sum_cons, List.map_cons, List.sum_cons]
    have hn' := List.nodup_cons.mp hn
    have h1 := sum_sub (f := f) (g := g) (l := l.erase x) hn'.2 (fun y hy => by
      refine (List.mem_erase_of_ne fun z => ?_).mpr (hs y (List.mem_cons_of_mem _ hy))
      rw [z] at hy
      exact hn'.1 hy) fun y hy => hf y (List.mem_cons_of_mem _ hy)
    have h2 := hf x List.mem_cons_self
    omega
/-! ### entries of fewer values -/
theorem ents_mem {vals : List Loose} {e : List Nat × List Loose} : e ∈ ents vals ↔ ∃ v ∈ vals, e ∈ entsOf v := List.mem_flatMap
theorem ents_sub {vals vals' : List Loose} (h : ∀ v ∈ vals', v ∈ vals) : ∀ e ∈ ents vals', e ∈ ents vals := fun e he => by
  obtain ⟨v, h1, h2⟩ := ents_mem.mp he
  exact ents_mem.mpr ⟨v, h v h1, h2⟩
theorem occ_sub {vals vals' : List Loose} (h : ∀ v ∈ vals', v ∈ vals) (m : List Nat) : ∀ v ∈ occ m (ents vals'), v ∈ occ m (ents vals) := fun v hv => by
  obtain ⟨e, he, hv⟩ := List.mem_flatMap.mp hv
  obtain ⟨h1, h2⟩ := List.mem_filter.mp he
  exact List.mem_flatMap.mpr ⟨e, List.mem_filter.mpr ⟨ents_sub h e h1, h2⟩, hv⟩
theorem occ_ne {n : Nat} {vals : List Loose} (hw : ∀ v ∈ vals, wf (n + 1) v) {m : List Nat} (hm : m ∈ (ents vals).map Prod.fst) : occ m (ents vals) ≠ [] := fun z => by
  obtain ⟨e, he, rfl⟩ := List.mem_map.mp hm
  obtain ⟨u, r, hu⟩ := List.exists_cons_of_ne_nil (ents_wf hw e he).2.1
  have : u ∈ occ e.1 (ents vals) := List.mem_flatMap.mpr ⟨e, List.mem_filter.mpr ⟨he, by simp⟩, by rw [hu]; simp⟩
  rw [z] at this
  cases this
theorem occ_wf {n : Nat} {vals : List Loose} (hw : ∀ v ∈ vals, wf (n + 1) v) (m : List Nat) : ∀ v ∈ occ m (ents vals), wf n v := fun v hv => by
  obtain ⟨e, he, hv⟩ := List.mem_flatMap.mp hv
  exact (ents_wf hw e (List.mem_filter.mp he).1).2.2 v hv
theorem order_all {rows : List (List Text)} : ∀ {k : Nat} {left o : List Text}, inOrder rows k left = some o → ∀ x ∈ left, x ∈ o
  | k, [], o, h, x, hx => by cases hx
  | 0, a :: l, o, h, x, hx => by
    rw [inOrder] at h
    cases h
    intro z
    cases z
  | k + 1, a :: l, o, h, x, hx => by
    rw [inOrder] at h
    · cases e : (a :: l).find? (free rows (a :: l)) with
      | none =>
        rw [e] at h
        cases h
      | some n =>
        rw [e] at h
        dsimp only at h
        obtain ⟨o', ho, rfl⟩ := Option.map_eq_some_iff.mp h
        by_cases z : x = n
        · rw [z]
          exact List.mem_cons_self
        · exact List.mem_cons_of_mem _ (order_all ho x (List.mem_filter.mpr ⟨hx, by simpa using z⟩))
    · intro z
      cases z
/-- what a smaller kind is -/
structure KLe (k' k : Kind) : Prop where
  len : (showKind k').length ≤ (showKind k).length
  lvs : leavesKind k' ≤ leavesKind k
theorem grp_le {c : Bool} {vals vals' : List Loose} {ks ks' : List (Text × Kind)} {o o' : List Text} (hn : o'.Nodup) (hs : ∀ m ∈ o', m ∈ o) (hk : ∀ m ∈ o', KLe (kindIn ks' m) (kindIn ks m)) : KLe (.group c (numbered (fl vals' ks' o'))) (.group c (numbered (fl vals ks o))) := by
  have hl : o'.length ≤ o.length := List.Nodup.length_le_of_subset hn hs
  constructor
  · rw [showKind, showKind]
    simp only [List.length_cons, List.length_append, List.length_nil]
    show (ft (fl vals' ks' o')).length + 1 + 1 ≤ (ft (fl vals ks o)).length + 1 + 1
    rw [ft_sum, ft_sum, List.map_map, List.map_map, List.length_map, List.length_map]
    have h1 : (o'.map ((fun x : Text × Mode × Kind => x.1.length + 1 + (showKind x.2.2).length) ∘ fun m => (m, modeV vals' m, kindIn ks' m))).sum ≤ (o.map ((fun x : Text × Mode × Kind => x.1.length + 1 + (showKind x.2.2).length) ∘ fun m => (m, modeV vals m, kindIn ks m))).sum :=
      sum_sub hn hs fun m hm => by
        have := (hk m hm).len
        show m.length + 1 + (showKind (kindIn ks' m)).length ≤ m.length + 1 + (showKind (kindIn ks m)).length
        omega
    have h2 := preL_mono hl
    omega
  · show lv (fl vals' ks' o') ≤ lv (fl vals ks o)
    rw [lv_sum, lv_sum, List.map_map, List.map_map]
    exact sum_sub hn hs fun m hm => (hk m hm).lvs
theorem kinds_less {n : Nat} {vals vals' : List Loose} {ks : List (Text × Kind)} (ih : ∀ vals vals' k, vals' ≠ [] → (∀ v ∈ vals', v ∈ vals) → (∀ v ∈ vals, wf n v) → found (n + 1) vals = .ok k → ∃ k', found (n + 1) vals' = .ok k' ∧ KLe k' k)
    (hs : ∀ v ∈ vals', v ∈ vals) (hw : ∀ v ∈ vals, wf (n + 1) v) (h : subs (n + 1) vals = .ok ks) : ∃ ks', subs (n + 1) vals' = .ok ks' ∧ ∀ m ∈ (ents vals').map Prod.fst, m ∈ (ents vals).map Prod.fst ∧ KLe (kindIn ks' m) (kindIn ks m) := by
  obtain ⟨h1, h2⟩ := kinds_in h
  have hm' : ∀ m, m ∈ (ents vals').map Prod.fst → m ∈ (ents vals).map Prod.fst := fun m hm => by
    obtain ⟨e, he, rfl⟩ := List.mem_map.mp hm
    exact List.mem_map_of_mem (ents_sub hs e he)
  have each : ∀ m ∈ (ents vals').map Prod.fst, ∃ k', found (n + 1) (occ m (ents vals')) = .ok k' ∧ KLe k' (kindIn ks m) := fun m hm =>
    ih _ _ _ (occ_ne (fun v hv => hw v (hs v hv)) hm) (occ_sub hs m) (occ_wf hw m) (h1 m ((names_mem _ m).mpr (hm' m hm)))
  obtain ⟨ks', hks⟩ := mapE_ok (f := fun m => (under m (found (n + 1) (occ m (ents vals')))).map fun k => (m, k)) (l := names ((ents vals').map Prod.fst)) fun m hm => by
    obtain ⟨k', e, _⟩ := each m ((names_mem _ m).mp hm)
    rw [e]
    exact ⟨_, rfl⟩
  have hks' : subs (n + 1) vals' = .ok ks' := hks
  obtain ⟨g1, g2⟩ := kinds_in hks'
  refine ⟨ks', hks', fun m hm => ⟨hm' m hm, ?_⟩⟩
  obtain ⟨k', e, le⟩ := each m hm
  have := g1 m ((names_mem _ m).mpr hm)
  rw [e] at this
  cases this
  exact le
theorem kd_sub {vals vals' : List Loose} (hs : ∀ v ∈ vals', v ∈ vals) {k : Nat} (h : ∀ v ∈ vals, kd v = k) : ∀ v ∈ vals', kd v = k := fun v hv => h v (hs v hv)
theorem rec_inj {rs rs' : List (List (Text × List Loose))} (hs : ∀ v ∈ rs'.map Loose.record, v ∈ rs.map Loose.record) : ∀ r ∈ rs', r ∈ rs := fun r hr => by
  obtain ⟨r2, h1, h2⟩ := List.mem_map.mp (hs (.record r) (List.mem_map_of_mem hr))
  cases h2
  exact h1
theorem found_less : ∀ (n : Nat) (vals vals' : List Loose) (k : Kind), vals' ≠ [] → (∀ v ∈ vals', v ∈ vals) → (∀ v ∈ vals, wf n v) → found (n + 1) vals = .ok k → ∃ k', found (n + 1) vals' = .ok k' ∧ KLe k' k := by
  intro n
  have znu : ∀ n (zs : List Int) vals' k, (∀ v ∈ vals', v ∈ zs.map Loose.num) → found (n + 1) (zs.map Loose.num) = .ok k → ∃ k', found (n + 1) vals' = .ok k' ∧ KLe k' k := fun n zs vals' k hs h => by
    obtain ⟨ys, rfl⟩ := (one_kind (kd_sub hs (k := 0) fun v hv => by obtain ⟨z, _, rfl⟩ := List.mem_map.mp hv; rfl)).1 rfl
    rw [found_num] at h ⊢
    cases h
    refine ⟨_, rfl, ?_, Nat.le_refl _⟩
    rw [showKind, showKind]
    refine numLeaf_mono fun y hy => ?_
    obtain ⟨z, h1, h2⟩ := List.mem_map.mp (hs (.num y) (List.mem_map_of_mem hy))
    cases h2
    exact h1
  have ztx : ∀ n (zs : List Text) vals' k, zs ≠ [] → vals' ≠ [] → (∀ v ∈ vals', v ∈ zs.map Loose.str) → found (n + 1) (zs.map Loose.str) = .ok k → ∃ k', found (n + 1) vals' = .ok k' ∧ KLe k' k := fun n zs vals' k hz hne hs h => by
    obtain ⟨ys, rfl⟩ := (one_kind (kd_sub hs (k := 1) fun v hv => by obtain ⟨z, _, rfl⟩ := List.mem_map.mp hv; rfl)).2.1 rfl
    rw [found_str _ hz] at h
    rw [found_str _ fun z => hne (by rw [z]; rfl)]
    cases h
    refine ⟨_, rfl, ?_, Nat.le_refl _⟩
    rw [showKind, showKind]
    refine strLeaf_mono fun y hy => ?_
    obtain ⟨z, h1, h2⟩ := List.mem_map.mp (hs (.str y) (List.mem_map_of_mem hy))
    cases h2
    exact h1
  induction n with
  | zero =>
    intro vals vals' k hne hs hw h
    rcases found_cases vals with ⟨zs, rfl⟩ | ⟨zs, hz, rfl⟩ | ⟨rs, hr, rfl⟩ | ⟨as, ha, rfl⟩ | ⟨v, u, hv, hu, hk⟩
    · exact znu 0 zs vals' k hs h
    · exact ztx 0 zs vals' k hz hne hs h
    · obtain ⟨a, r, rfl⟩ := List.exists_cons_of_ne_nil hr
      exact False.elim (hw (.record a) (by simp))
    · obtain ⟨a, r, rfl⟩ := List.exists_cons_of_ne_nil ha
      exact False.elim (hw (.alt a.1 a.2) (by simp))
    · rw [found_mix _ hv hu hk] at h
      cases h
  | succ n ih =>
    intro vals vals' k hne hs hw h
    rcases found_cases vals with ⟨zs, rfl⟩ | ⟨zs, hz, rfl⟩ | ⟨rs, hr, rfl⟩ | ⟨as, ha, rfl⟩ | ⟨v, u, hv, hu, hk⟩
    · exact znu (n + 1) zs vals' k hs h
    · exact ztx (n + 1) zs vals' k hz hne hs h
    · have hnd := wf_nd hw
      obtain ⟨rs', rfl⟩ := (one_kind (kd_sub hs (k := 2) fun v hv => by obtain ⟨z, _, rfl⟩ := List.mem_map.mp hv; rfl)).2.2.1 rfl
      have hr' : rs' ≠ [] := fun z => hne (by rw [z]; rfl)
      have hsub := rec_inj hs
      cases e : subs (n + 1) (rs.map .record) with
      | error c =>
        rw [found_recG hr hnd, e] at h
        cases h
      | ok ks =>
        cases eo : inOrder (namesOf rs) (names (namesOf rs).flatten).length (names (namesOf rs).flatten) with
        | none =>
          rw [found_recG hr hnd, e] at h
          dsimp only at h
          rw [eo] at h
          cases h
        | some o =>
          rw [fl_rec hr hnd e eo] at h
          cases h
          obtain ⟨ks', e', hks⟩ := kinds_less ih hs hw e
          have hin : ∀ m, m ∈ names (namesOf rs').flatten ↔ m ∈ (ents (rs'.map Loose.record)).map Prod.fst := fun m => by
            rw [names_recs2]
            exact names_mem _ m
          have hino : ∀ m ∈ names (namesOf rs').flatten, m ∈ o := fun m hm => by
            refine order_all eo m ((names_mem _ m).mpr ?_)
            have := (hks m ((hin m).mp hm)).1
            rwa [names_recs2] at this
          obtain ⟨o', eo'⟩ := order_go (rows := namesOf rs) (rows' := namesOf rs') (fun r hr => by
            obtain ⟨x, hx, rfl⟩ := List.mem_map.mp hr
            exact List.mem_map_of_mem (hsub x hx)) (suits_of eo) _ (names (namesOf rs').flatten) (Nat.le_refl _) (names_nd _) hino
          obtain ⟨t1, t2⟩ := order_sub eo'
          refine ⟨_, fl_rec hr' (fun r hr => hnd r (hsub r hr)) e' eo', ?_⟩
          exact grp_le (t2 (names_nd _)) (fun m hm => hino m (t1 m hm)) fun m hm => (hks m ((hin m).mp (t1 m hm))).2
    · obtain ⟨as', rfl⟩ := (one_kind (kd_sub hs (k := 3) fun v hv => by obtain ⟨z, _, rfl⟩ := List.mem_map.mp hv; rfl)).2.2.2 rfl
      have ha' : as' ≠ [] := fun z => hne (by rw [z]; rfl)
      cases e : subs (n + 1) (as.map fun x => .alt x.1 x.2) with
      | error c =>
        rw [found_altG ha, e] at h
        cases h
      | ok ks =>
        rw [fl_alt ha e] at h
        cases h
        obtain ⟨ks', e', hks⟩ := kinds_less ih hs hw e
        refine ⟨_, fl_alt ha' e', ?_⟩
        exact grp_le (names_nd _) (fun m hm => (names_mem _ m).mpr (hks m ((names_mem _ m).mp hm)).1) fun m hm => (hks m ((names_mem _ m).mp hm)).2
    · rw [found_mix _ hv hu hk] at h
      cases h
/-- fewer rows go together too -/
theorem schema_less {rs rs' : List (List (List Nat × List Loose))} {fs : Fields} (h : schemaOf (rs.map Loose.record) = .ok fs) (hl : rs.length ≤ 101) (hr : ∀ r ∈ rs, RowP r) (hne : rs' ≠ []) (hs : ∀ r ∈ rs', r ∈ rs) (hl' : rs'.length ≤ 101) : ∃ fs', schemaOf (rs'.map Loose.record) = .ok fs' := by
  have hw : ∀ v ∈ rs.map Loose.record, wf 7 v := fun v hv => by
    obtain ⟨r, h1, rfl⟩ := List.mem_map.mp hv
    exact wf_mono _ _ (hr r h1).1
  have hs' : ∀ v ∈ rs'.map Loose.record, v ∈ rs.map Loose.record := fun v hv => by
    obtain ⟨r, h1, rfl⟩ := List.mem_map.mp hv
    exact List.mem_map_of_mem (hs r h1)
  unfold schemaOf at h
  cases e : found 8 (rs.map Loose.record) with
  | error c =>
    rw [e] at h
    cases h
  | ok k =>
    obtain ⟨k', e', le⟩ := found_less 7 _ (rs'.map Loose.record) k (by simpa using hne) hs' hw e
    rw [e] at h
    have hg : ∃ fs', k' = .group false fs' := by
      have hnd := wf_nd fun v hv => hw v (hs' v hv)
      rw [found_recG hne hnd] at e'
      split at e'
      · cases e'
      · split at e'
        · cases e'
        · cases e'
          exact ⟨_, rfl⟩
    obtain ⟨fs', rfl⟩ := hg
    unfold schemaOf
    rw [e']
    split at h
    · cases h
    · rename_i fs0 e0
      cases e0
      split at h
      · cases h
      · rename_i h1
        split at h
        · cases h
        · rename_i h2
          have l1 := le.lvs
          have l2 := le.len
          refine ⟨fs', ?_⟩
          rw [if_neg (by omega), if_neg (by show ¬ LENGTH < (showKind (.group false fs')).length; have : ¬ LENGTH < (showKind (.group false fs0)).length := h2; omega)]
    · cases h
/-! ### open -/
theorem side_one {c : Nat} {b : Text} (h : c ≠ 123 ∨ b.head? ≠ some 125) : side 123 125 (c :: b) = side 123 125 b := by
  cases b with
  | nil => rfl
  | cons d r =>
    show ((c == 123 && d == 125) || side 123 125 (d :: r)) = side 123 125 (d :: r)
    have : (c == 123 && d == 125) = false := by
      rcases h with z | z
      · rw [beq_false_of_ne z]
        rfl
      · have z' : d ≠ 125 := fun e => z (by rw [e]; rfl)
        rw [beq_false_of_ne z', Bool.and_false]
    rw [this, Bool.false_or]
theorem side_app : ∀ {a b : Text}, (a.getLast? ≠ some 123 ∨ b.head? ≠ some 125) → side 123 125 (a ++ b) = (side 123 125 a || side 123 125 b)
  | [], b, _ => by
    show side 123 125 b = (false || side 123 125 b)
    rw [Bool.false_or]
  | [c], b, h => by
    show side 123 125 (c :: b) = (false || side 123 125 b)
    rw [Bool.false_or]
    refine side_one ?_
    rcases h with z | z
    · exact .inl fun e => z (by rw [e]; rfl)
    · exact .inr z
  | c :: d :: r, b, h => by
    have ih := side_app (a := d :: r) (b := b) (by
      rcases h with z | z
      · exact .inl (by rwa [List.getLast?_cons_cons] at z)
      · exact .inr z)
    show ((c == 123 && d == 125) || side 123 125 ((d :: r) ++ b)) = (((c == 123 && d == 125) || side 123 125 (d :: r)) || side 123 125 b)
    rw [ih, Bool.or_assoc]
def Nob (t : Text) : Prop := ∀ c ∈ t, c ≠ 123 ∧ c ≠ 125
theorem Nob.side : ∀ {t : Text}, Nob t → side 123 125 t = false
  | [], _ => rfl
  | c :: t, h => by
    rw [side_one (.inl (h c List.mem_cons_self).1)]
    exact Nob.side fun x hx => h x (List.mem_cons_of_mem _ hx)
theorem Nob.app {a b : Text} (h : Nob a) (g : Nob b) : Nob (a ++ b) := fun c hc => by
  rcases List.mem_append.mp hc with z | z
  · exact h c z
  · exact g c z
theorem Nob.last {t : Text} (h : Nob t) : t.getLast? ≠ some 123 := fun z => (h 123 (List.mem_of_getLast? z)).1 rfl
theorem Nob.head {t : Text} (h : Nob t) : t.head? ≠ some 125 := fun z => (h 125 (List.mem_of_head? z)).2 rfl
theorem digits_nob : ∀ (f n : Nat) (acc : Text), Nob acc → Nob (digitsBefore f n acc)
  | 0, n, acc, h => by
    rw [digitsBefore]
    exact h
  | f + 1, n, acc, h => by
    have one : ∀ k, k < 10 → Nob ((48 + k) :: acc) := fun k hk c hc => by
      rcases List.mem_cons.mp hc with z | z
      · omega
      · exact h c z
    rw [digitsBefore]
    split
    · rename_i hn
      exact one n hn
    · exact digits_nob f _ _ (one _ (Nat.mod_lt _ (by decide)))
theorem dec_nob (n : Nat) : Nob (decimal n) := digits_nob _ _ _ fun c hc => by cases hc
theorem dec_ne (n : Nat) : decimal n ≠ [] := fun z => by
  have := dec_pos n
  rw [z] at this
  simp at this
theorem good_nob {s : Text} (h : Vacola.goodName s = true) : Nob s := by
  cases s with
  | nil => cases h
  | cons a r =>
    have h1 : (Vacola.isLow a && (a :: r).all Vacola.nameSign && decide ((a :: r).length ≤ 12)) = true := h
    simp only [Bool.and_eq_true] at h1
    intro c hc
    have := List.all_eq_true.mp h1.1.2 c hc
    unfold Vacola.nameSign Vacola.isLow Vacola.isDigit at this
    simp at this
    omega
theorem leaf_nob (l : Leaf) : Nob (showLeaf l) ∧ showLeaf l ≠ [] := by
  cases l with
  | bit => exact ⟨fun c hc => by rw [List.mem_singleton.mp hc]; decide, by simp [showLeaf]⟩
  | int n =>
    refine ⟨fun c hc => ?_, by simp [showLeaf]⟩
    rcases List.mem_cons.mp hc with z | z
    · rw [z]
      decide
    · exact dec_nob n c z
  | text n =>
    refine ⟨fun c hc => ?_, by simp [showLeaf]⟩
    rcases List.mem_cons.mp hc with z | z
    · rw [z]
      decide
    · exact dec_nob n c z
/-- a kind's text as it should be -/
structure KP (k : Kind) : Prop where
  ne : showKind k ≠ []
  last : (showKind k).getLast? ≠ some 123
  open_ : side 123 125 (showKind k) = openKind k
theorem leaf_kp (l : Leaf) : KP (.leaf l) := by
  obtain ⟨h1, h2⟩ := leaf_nob l
  have e : showKind (.leaf l) = showLeaf l := by rw [showKind]
  refine ⟨?_, ?_, ?_⟩
  · rw [e]
    exact h2
  · rw [e]
    exact h1.last
  · rw [e, h1.side, openKind]
structure FP (l : List (Text × Mode × Kind)) : Prop where
  open_ : side 123 125 (ft l) = l.any fun x => openKind x.2.2
  head : (ft l).head? ≠ some 125
  last : (ft l).getLast? ≠ some 123
  ne : l ≠ [] → ft l ≠ []
theorem ft_fp : ∀ l : List (Text × Mode × Kind), (∀ x ∈ l, Nob x.1 ∧ KP x.2.2) → FP l := by
  refine rev_ind (fun _ => ?_) fun l x ih h => ?_
  · have : ft [] = [] := ft_nil
    exact ⟨by rw [this]; rfl, by rw [this]; simp, by rw [this]; simp, fun z => absurd rfl z⟩
  · have i := ih fun y hy => h y (List.mem_append_left _ hy)
    obtain ⟨nb, kp⟩ := h x (List.mem_append_right _ List.mem_cons_self)
    have e : ft (l ++ [x]) = ft l ++ (((if l = [] then [] else [59]) ++ (decimal (l.length + 1) ++ (x.1 ++ [showMode x.2.1]))) ++ showKind x.2.2) := by
      rw [ft_snoc]
      simp only [List.append_assoc, List.cons_append, List.nil_append]
    have nm : Nob ((if l = [] then [] else [59]) ++ (decimal (l.length + 1) ++ (x.1 ++ [showMode x.2.1]))) := by
      refine Nob.app ?_ ((dec_nob _).app (nb.app ?_))
      · split
        · intro c hc
          cases hc
        · intro c hc
          rw [List.mem_singleton.mp hc]
          decide
      · intro c hc
        rw [List.mem_singleton.mp hc]
        cases x.2.1 <;> decide
    have nn : ((if l = [] then [] else [59]) ++ (decimal (l.length + 1) ++ (x.1 ++ [showMode x.2.1]))) ≠ [] := by simp
    generalize (if l = [] then ([] : Text) else [59]) ++ (decimal (l.length + 1) ++ (x.1 ++ [showMode x.2.1])) = m at e nm nn
    obtain ⟨c, r, rfl⟩ := List.exists_cons_of_ne_nil nn
    have hc := nm c List.mem_cons_self
    have hh : (c :: r ++ showKind x.2.2).head? ≠ some 125 := fun z => hc.2 (Option.some.inj z)
    refine ⟨?_, ?_, ?_, fun _ => ?_⟩
    · rw [e, side_app (.inr hh), side_app (.inl nm.last), nm.side, i.open_, kp.open_, Bool.false_or, List.any_append]
      simp
    · rw [e, List.head?_append]
      cases z : (ft l).head? with
      | none => exact hh
      | some d =>
        have := i.head
        rw [z] at this
        exact this
    · rw [e]
      have hk := kp.last
      have hne := kp.ne
      rw [← List.append_assoc, List.getLast?_append]
      cases z : (showKind x.2.2).getLast? with
      | none => exact absurd (List.getLast?_eq_none_iff.mp z) hne
      | some d =>
        rw [z] at hk
        exact hk
    · rw [e]
      simp
theorem list_fields : ∀ hs : List (Head × Kind), (fieldsOf hs).list = hs
  | [] => rfl
  | x :: r => by
    show (x.1, x.2) :: (fieldsOf r).list = x :: r
    rw [list_fields r]
theorem open_fields : ∀ hs : List (Head × Kind), openFields (fieldsOf hs) = hs.any fun x => openKind x.2
  | [] => by
    show openFields .nil = _
    rw [openFields]
    rfl
  | x :: r => by
    show openFields (.cons x.1 x.2 (fieldsOf r)) = _
    rw [openFields, open_fields r]
    rfl
theorem any_zip {A : Type} (p : A → Bool) : ∀ (l : List A) (n : Nat), ((l.zipIdx n).any fun x => p x.1) = l.any p
  | [], _ => rfl
  | a :: l, n => by
    show (p a || ((l.zipIdx (n + 1)).any fun x => p x.1)) = (p a || l.any p)
    rw [any_zip p l (n + 1)]
theorem open_group (c : Bool) (l : List (Text × Mode × Kind)) : openKind (.group c (numbered l)) = (l.isEmpty || l.any fun x => openKind x.2.2) := by
  rw [openKind]
  unfold numbered
  rw [list_fields, open_fields, List.any_map]
  have h1 := any_zip (fun x : Text × Mode × Kind => openKind x.2.2) l 0
  have h2 : (l.zipIdx.map fun x => (({ number := x.2 + 1, name := x.1.1, mode := x.1.2.1, dflt := none } : Head), x.1.2.2)).isEmpty = l.isEmpty := by
    cases l <;> rfl
  rw [h2]
  exact congrArg (l.isEmpty || ·) h1
theorem grp_kp {c : Bool} {l : List (Text × Mode × Kind)} (h : ∀ x ∈ l, Nob x.1 ∧ KP x.2.2) (hc : c = true → l ≠ []) : KP (.group c (numbered l)) := by
  have f := ft_fp l h
  have e : showKind (.group c (numbered l)) = Vacola.openSign c :: (ft l ++ [Vacola.closeSign c]) := by rw [showKind]
  refine ⟨by rw [e]; simp, ?_, ?_⟩
  · rw [e, ← List.cons_append, List.getLast?_append]
    show some (Vacola.closeSign c) ≠ some 123
    cases c <;> decide
  · rw [e, open_group]
    by_cases hl : l = []
    · subst hl
      have hcf : c = false := by
        cases c with
        | false => rfl
        | true => exact absurd rfl (hc rfl)
      subst hcf
      rw [show ft [] = [] from ft_nil]
      decide
    · have hne := f.ne hl
      obtain ⟨d, r, er⟩ := List.exists_cons_of_ne_nil hne
      have hd : (ft l ++ [Vacola.closeSign c]).head? ≠ some 125 := by
        rw [er]
        have := f.head
        rw [er] at this
        exact this
      rw [side_one (.inr hd), side_app (.inl f.last), f.open_]
      have : l.isEmpty = false := by
        cases l with
        | nil => exact absurd rfl hl
        | cons a l => rfl
      rw [this, Bool.false_or]
      show (_ || false) = _
      rw [Bool.or_false]
theorem kinds_kp {n : Nat} {vals : List Loose} {ks : List (Text × Kind)} (ih : ∀ vals k, vals ≠ [] → (∀ v ∈ vals, wf n v) → found (n + 1) vals = .ok k → KP k) (hw : ∀ v ∈ vals, wf (n + 1) v) (h : subs (n + 1) vals = .ok ks) : ∀ m ∈ (ents vals).map Prod.fst, Nob m ∧ KP (kindIn ks m) := fun m hm => by
  obtain ⟨h1, h2⟩ := kinds_in h
  refine ⟨?_, ih _ _ (occ_ne hw hm) (occ_wf hw m) (h1 m ((names_mem _ m).mpr hm))⟩
  obtain ⟨e, he, rfl⟩ := List.mem_map.mp hm
  exact good_nob (ents_wf hw e he).1
theorem found_kp : ∀ (n : Nat) (vals : List Loose) (k : Kind), vals ≠ [] → (∀ v ∈ vals, wf n v) → found (n + 1) vals = .ok k → KP k := by
  intro n
  induction n with
  | zero =>
    intro vals k hne hw h
    rcases found_cases vals with ⟨zs, rfl⟩ | ⟨zs, hz, rfl⟩ | ⟨rs, hr, rfl⟩ | ⟨as, ha, rfl⟩ | ⟨v, u, hv, hu, hk⟩
    · rw [found_num] at h
      cases h
      exact leaf_kp _
    · rw [found_str _ hz] at h
      cases h
      exact leaf_kp _
    · obtain ⟨a, r, rfl⟩ := List.exists_cons_of_ne_nil hr
      exact False.elim (hw (.record a) (by simp))
    · obtain ⟨a, r, rfl⟩ := List.exists_cons_of_ne_nil ha
      exact False.elim (hw (.alt a.1 a.2) (by simp))
    · rw [found_mix _ hv hu hk] at h
      cases h
  | succ n ih =>
    intro vals k hne hw h
    rcases found_cases vals with ⟨zs, rfl⟩ | ⟨zs, hz, rfl⟩ | ⟨rs, hr, rfl⟩ | ⟨as, ha, rfl⟩ | ⟨v, u, hv, hu, hk⟩
    · rw [found_num] at h
      cases h
      exact leaf_kp _
    · rw [found_str _ hz] at h
      cases h
      exact leaf_kp _
    · have hnd := wf_nd hw
      cases e : subs (n + 1) (rs.map .record) with
      | error c =>
        rw [found_recG hr hnd, e] at h
        cases h
      | ok ks =>
        cases eo : inOrder (namesOf rs) (names (namesOf rs).flatten).length (names (namesOf rs).flatten) with
        | none =>
          rw [found_recG hr hnd, e] at h
          dsimp only at h
          rw [eo] at h
          cases h
        | some o =>
          rw [fl_rec hr hnd e eo] at h
          cases h
          have hkp := kinds_kp ih hw e
          refine grp_kp (fun x hx => ?_) (fun z => by cases z)
          obtain ⟨m, hm, rfl⟩ := List.mem_map.mp hx
          refine hkp m ?_
          rw [names_recs2]
          exact (names_mem _ m).mp ((order_sub eo).1 m hm)
    · cases e : subs (n + 1) (as.map fun x => .alt x.1 x.2) with
      | error c =>
        rw [found_altG ha, e] at h
        cases h
      | ok ks =>
        rw [fl_alt ha e] at h
        cases h
        have hkp := kinds_kp ih hw e
        refine grp_kp (fun x hx => ?_) (fun _ z => ?_)
        · obtain ⟨m, hm, rfl⟩ := List.mem_map.mp hx
          exact hkp m ((names_mem _ m).mp hm)
        · obtain ⟨a, r, rfl⟩ := List.exists_cons_of_ne_nil ha
          have hm : a.1 ∈ names ((ents ((a :: r).map fun x => Loose.alt x.1 x.2)).map Prod.fst) := by
            rw [names_mem, names_alts]
            simp
          rw [List.map_eq_nil_iff.mp z] at hm
          cases hm
    · rw [found_mix _ hv hu hk] at h
      cases h
theorem open_side {rs : List (List (List Nat × List Loose))} {fs : Fields} (h : schemaOf (rs.map Loose.record) = .ok fs) (hr : ∀ r ∈ rs, RowP r) : side 123 125 (showSchema fs) = openKind (.group false fs) := by
  have hw : ∀ v ∈ rs.map Loose.record, wf 7 v := fun v hv => by
    obtain ⟨r, h1, rfl⟩ := List.mem_map.mp hv
    exact wf_mono _ _ (hr r h1).1
  have hf : found 8 (rs.map Loose.record) = .ok (.group false fs) := by
    unfold schemaOf at h
    split at h
    · cases h
    · rename_i e
      split at h
      · cases h
      · split at h
        · cases h
        · cases h
          exact e
    · cases h
  have hne : rs.map Loose.record ≠ [] := fun z => by
    rw [z] at hf
    have : found 8 [] = .ok (.leaf (numLeaf [])) := found_num 7 []
    rw [this] at hf
    cases hf
  exact (found_kp 7 _ _ hne hw hf).open_
end SF
end -- Z3

section -- Z4
set_option Elab.async false
set_option linter.all false
set_option maxRecDepth 100000
set_option maxHeartbeats 2000000
/-! # Z4: a clash's number and path -/
namespace SF
open Vacola (Text Leaf Mode Head Kind Fields)
open Vacolo
theorem kinds_num {d : Nat} {sub : Text → List Loose} {all : List Text} {c : Clash} (ih : ∀ l c, found d l = .error c → 1 ≤ c.number) (e : kindsE d sub all = .error c) : 1 ≤ c.number := by
  obtain ⟨a, ha, h1⟩ := mapE_of e
  obtain ⟨c2, h2, rfl⟩ := under_err h1
  exact ih _ c2 h2
theorem found_pos : ∀ (d : Nat) (l : List Loose) (c : Clash), found d l = .error c → 1 ≤ c.number
  | 0, l, c, h => by
    rw [found] at h
    cases h
    exact Nat.le_refl _
  | d + 1, l, c, h => by
    rcases found_cases l with ⟨zs, rfl⟩ | ⟨zs, hz, rfl⟩ | ⟨rs, hr, rfl⟩ | ⟨as, ha, rfl⟩ | ⟨v, u, hv, hu, hk⟩
    · rw [found_num] at h
      cases h
    · rw [found_str d hz] at h
      cases h
    · rw [found_rec d hr] at h
      unfold foundR at h
      split at h
      · rename_i c' e
        cases h
        exact kinds_num (found_pos d) e
      · split at h
        · cases h
          exact (by decide : 1 ≤ 2)
        · cases h
    · rw [found_altG ha] at h
      split at h
      · rename_i c' e
        cases h
        exact kinds_num (found_pos d) e
      · cases h
    · rw [found_mix d hv hu hk] at h
      cases h
      exact Nat.le_refl _
theorem clash_pos {rows : List Loose} {c : Clash} (h : schemaOf rows = .error c) : 1 ≤ c.number := by
  unfold schemaOf at h
  split at h
  · rename_i e
    cases h
    exact found_pos _ _ _ e
  · split at h
    · cases h
      exact (by decide : 1 ≤ 3)
    · split at h
      · cases h
        exact (by decide : 1 ≤ 4)
      · cases h
  · cases h
    exact Nat.le_refl _
theorem kinds_good {n : Nat} {vals : List Loose} {c : Clash} (ih : ∀ l c, (∀ v ∈ l, wf n v) → found (n + 1) l = .error c → ∀ m ∈ c.path, m.length ≤ 12) (hw : ∀ v ∈ vals, wf (n + 1) v) (e : subs (n + 1) vals = .error c) : ∀ m ∈ c.path, m.length ≤ 12 := by
  obtain ⟨a, ha, h1⟩ := mapE_of e
  obtain ⟨c2, h2, rfl⟩ := under_err h1
  have ha' := (names_mem _ a).mp ha
  obtain ⟨en, hen, rfl⟩ := List.mem_map.mp ha'
  intro m hm
  rcases List.mem_cons.mp hm with z | z
  · rw [z]
    exact good_len (ents_wf hw en hen).1
  · refine ih _ c2 (fun v hv => ?_) h2 m z
    unfold occ at hv
    obtain ⟨x, hx, hv'⟩ := List.mem_flatMap.mp hv
    exact (ents_wf hw x (List.mem_filter.mp hx).1).2.2 v hv'
theorem path_good : ∀ (n : Nat) (l : List Loose) (c : Clash), (∀ v ∈ l, wf n v) → found (n + 1) l = .error c → ∀ m ∈ c.path, m.length ≤ 12 := by
  intro n
  induction n with
  | zero =>
    intro l c hw h
    rcases found_cases l with ⟨zs, rfl⟩ | ⟨zs, hz, rfl⟩ | ⟨rs, hr, rfl⟩ | ⟨as, ha, rfl⟩ | ⟨v, u, hv, hu, hk⟩
    · rw [found_num] at h
      cases h
    · rw [found_str _ hz] at h
      cases h
    · cases rs with
      | nil => exact absurd rfl hr
      | cons r rs => exact False.elim (hw (.record r) (by simp))
    · cases as with
      | nil => exact absurd rfl ha
      | cons r rs => exact False.elim (hw (.alt r.1 r.2) (by simp))
    · rw [found_mix _ hv hu hk] at h
      cases h
      simp
  | succ n ih =>
    intro l c hw h
    rcases found_cases l with ⟨zs, rfl⟩ | ⟨zs, hz, rfl⟩ | ⟨rs, hr, rfl⟩ | ⟨as, ha, rfl⟩ | ⟨v, u, hv, hu, hk⟩
    · rw [found_num] at h
      cases h
    · rw [found_str _ hz] at h
      cases h
    · rw [found_recG hr (wf_nd hw)] at h
      split at h
      · rename_i c' e
        cases h
        exact kinds_good ih hw e
      · split at h
        · cases h
          simp
        · cases h
    · rw [found_altG ha] at h
      split at h
      · rename_i c' e
        cases h
        exact kinds_good ih hw e
      · cases h
    · rw [found_mix _ hv hu hk] at h
      cases h
      simp
theorem clash_path {rs : List (List (List Nat × List Loose))} {c : Clash} (h : schemaOf (rs.map Loose.record) = .error c) (hr : ∀ r ∈ rs, RowP r) : c.path.length ≤ 100 ∧ ∀ n ∈ c.path, n.length ≤ 100 := by
  unfold schemaOf at h
  split at h
  · rename_i c' e
    cases h
    refine ⟨Nat.le_trans (found_path _ _ _ e) (by decide), fun m hm => Nat.le_trans (path_good 7 _ _ (fun v hv => ?_) e m hm) (by decide)⟩
    obtain ⟨r, h1, rfl⟩ := List.mem_map.mp hv
    exact wf_mono _ _ (hr r h1).1
  · split at h
    · cases h
      simp
    · split at h
      · cases h
        simp
      · cases h
  · cases h
    simp
end SF
end -- Z4

section -- S16
set_option Elab.async false
set_option linter.all false
set_option maxRecDepth 100000
set_option maxHeartbeats 8000000
/-! # S16: the rows held; has, row -/
namespace SF
open PySem PySem.Spec PyProof.Rows L2
open LamX (CodeO TabS ExtN TabB)
open Vacolo (Loose found schemaOf readRow showRow)
variable {P : Program} {w : World} {K : PySem.W.Frag} {mg : Str → Option Value} {base : Heap}
abbrev Rec := List (List Nat × List Loose)
/-- texts as they lie -/
def Txs (H : Hp) : List V → List Rec → Prop
  | [], [] => True
  | .ref t :: xs, r :: rs => H t = some (.lst (vT (showRow (.record r)))) ∧ Txs H xs rs
  | _, _ => False
theorem Txs.mono {H H' : Hp} (k : KpS H H') : ∀ {xs : List V} {rs : List Rec}, Txs H xs rs → Txs H' xs rs
  | [], [], _ => trivial
  | .ref t :: xs, r :: rs, ⟨h, g⟩ => ⟨k _ _ h ⟨_, .inl rfl⟩, Txs.mono k g⟩
theorem Txs.len {H : Hp} : ∀ {xs : List V} {rs : List Rec}, Txs H xs rs → xs.length = rs.length
  | [], [], _ => rfl
  | .ref t :: xs, r :: rs, ⟨h, g⟩ => congrArg (· + 1) (Txs.len g)
theorem Txs.at {H : Hp} : ∀ {xs : List V} {rs : List Rec} {i : Nat} {x : V}, Txs H xs rs → xs[i]? = some x → ∃ t r, x = .ref t ∧ rs[i]? = some r ∧ H t = some (.lst (vT (showRow (.record r))))
  | .ref t :: xs, r :: rs, 0, x, ⟨h, g⟩, e => by
    cases e
    exact ⟨t, r, rfl, rfl, h⟩
  | .ref t :: xs, r :: rs, i + 1, x, ⟨h, g⟩, e => Txs.at (i := i) g e
theorem Txs.app {H : Hp} {t : Addr} {r : Rec} (h : H t = some (.lst (vT (showRow (.record r))))) : ∀ {xs : List V} {rs : List Rec}, Txs H xs rs → Txs H (xs ++ [.ref t]) (rs ++ [r])
  | [], [], _ => ⟨h, trivial⟩
  | .ref t :: xs, r :: rs, ⟨h1, g⟩ => ⟨h1, Txs.app h g⟩
theorem Txs.cut {H : Hp} : ∀ {xs : List V} {rs : List Rec} (n : Nat), Txs H xs rs → Txs H (xs.take n ++ xs.drop (n + 1)) (rs.take n ++ rs.drop (n + 1))
  | [], [], n, _ => by simp [Txs]
  | .ref t :: xs, r :: rs, 0, ⟨h, g⟩ => by simpa using g
  | .ref t :: xs, r :: rs, n + 1, ⟨h, g⟩ => ⟨h, Txs.cut n g⟩
theorem RLs.cut {H : Hp} : ∀ {xs : List V} {vs : List Loose} (n : Nat), RLs H xs vs → RLs H (xs.take n ++ xs.drop (n + 1)) (vs.take n ++ vs.drop (n + 1))
  | _, _, n, .nil => by
    rw [List.take_nil, List.drop_nil, List.take_nil, List.drop_nil]
    exact .nil
  | _, _, 0, .cons a b => b
  | _, _, n + 1, .cons a b => .cons a (RLs.cut n b)
/-- rows that are held -/
structure RokP (rs : List Rec) : Prop where
  few : rs.length ≤ 100
  row : ∀ r ∈ rs, RowP r
  go : rs = [] ∨ ∃ fs, schemaOf (rs.map Loose.record) = .ok fs
/-- the object as it lies -/
structure Held (K : PySem.W.Frag) (H : Hp) (p a b : Addr) (rs : List Rec) : Prop where
  ins : ∃ dx, H p = some (.ins (CRo K) dx (hF a b))
  txt : ∃ tx, H a = some (.lst tx) ∧ Txs (del (del H a) b) tx rs
  rcs : ∃ rx, H b = some (.lst rx) ∧ RLs (del (del H a) b) rx (rs.map Loose.record)
  ne : a ≠ b
  ok : RokP rs
theorem kps_del {H H' : Hp} {a b : Addr} (k : KpS H H') : KpS (del (del H a) b) (del (del H' a) b) := fun c o e sq => by
  by_cases z : c = b
  · rw [z, del_same] at e
    cases e
  rw [del_ne z] at e ⊢
  by_cases z2 : c = a
  · rw [z2, del_same] at e
    cases e
  rw [del_ne z2] at e ⊢
  exact k c o e sq
theorem SmT.kp {H H' : Hp} (s : SmT K H H') (t : Tb K H) : KpS H H' := fun c o e sq => s c o e (by
  obtain ⟨ps, ht, _⟩ := t
  obtain ⟨xs, z | z⟩ := sq <;> subst z
  · exact ne_of e ht (by intro z; cases z)
  · exact ne_of e ht (by intro z; cases z))
theorem Tb.ne {H : Hp} {c : Addr} {o : HO} (t : Tb K H) (h : H c = some o) (ho : ∀ ps, o ≠ .tbl ps) : c ≠ Pt K := by
  obtain ⟨ps, ht, _⟩ := t
  exact ne_of h ht (ho _)
theorem Held.go {H H' : Hp} {p a b : Addr} {rs : List Rec} (h : Held K H p a b rs) (k : KpS H H') (kp : ∀ o, H p = some o → H' p = some o) : Held K H' p a b rs := by
  obtain ⟨⟨dx, hp⟩, ⟨tx, ha, ht⟩, ⟨rx, hb, hr⟩, ne, ok⟩ := h
  exact ⟨⟨dx, kp _ hp⟩, ⟨tx, k _ _ ha ⟨_, .inl rfl⟩, ht.mono (kps_del k)⟩, ⟨rx, k _ _ hb ⟨_, .inl rfl⟩, hr.mono (kps_del k)⟩, ne, ok⟩
theorem Held.smt {H H' : Hp} {p a b : Addr} {rs : List Rec} (h : Held K H p a b rs) (s : SmT K H H') (t : Tb K H) : Held K H' p a b rs := h.go (s.kp t) fun o e => by
  obtain ⟨dx, hp⟩ := h.ins
  rw [hp] at e
  cases e
  exact s _ _ hp (t.ne hp (by intro _ z; cases z))
theorem Held.same {H H' : Hp} {p a b : Addr} {rs : List Rec} (h : Held K H p a b rs) (s : Same H H') : Held K H' p a b rs := h.go (Same.kp s) fun o e => s _ _ e
/-! what is left without some objects -/
def dl (H : Hp) (S : Addr → Bool) : Hp := fun c => if S c = true then none else H c
theorem dl_some {H : Hp} {S : Addr → Bool} {c : Addr} {o : HO} (h : dl H S c = some o) : S c = false ∧ H c = some o := by
  unfold dl at h
  cases e : S c with
  | true =>
    rw [e, if_pos rfl] at h
    cases h
  | false =>
    rw [e, if_neg (by decide)] at h
    exact ⟨rfl, h⟩
theorem dl_of {H : Hp} {S : Addr → Bool} {c : Addr} (h : S c = false) : dl H S c = H c := by
  unfold dl
  rw [h, if_neg (by decide)]
theorem dl_same {H : Hp} {S : Addr → Bool} : Same (dl H S) H := fun c o e => (dl_some e).2
theorem Held.smtD {H H' : Hp} {S : Addr → Bool} {p a b : Addr} {rs : List Rec} (h : Held K (dl H S) p a b rs) (s : SmT K H H') (t : Tb K H) : Held K (dl H' S) p a b rs := h.go (fun c o e sq => by
    obtain ⟨e1, e2⟩ := dl_some e
    rw [dl_of e1]
    exact s.kp t c o e2 sq) fun o e => by
  obtain ⟨e1, e2⟩ := dl_some e
  rw [dl_of e1]
  obtain ⟨dx, hp⟩ := h.ins
  rw [hp] at e
  cases e
  exact s _ _ e2 (t.ne e2 (by intro _ z; cases z))
/-- what is outside the object stands -/
def Fr (K : PySem.W.Frag) (p a b : Addr) (H H' : Hp) : Prop := ∀ c o, H c = some o → c ≠ Pt K → c ≠ p → c ≠ a → c ≠ b → H' c = some o
theorem SmT.fr {H H' : Hp} {p a b : Addr} (s : SmT K H H') : Fr K p a b H H' := fun c o e z _ _ _ => s c o e z
theorem Same.fr {H H' : Hp} {p a b : Addr} (s : Same H H') : Fr K p a b H H' := fun c o e _ _ _ _ => s c o e
/-- what a call is due to answer, and the rows then -/
def Due (rs : List Rec) (c : Vacolo.Call) (zs : List Int) (rs' : List Rec) : Prop := (Vacolo.step ⟨rs.map Loose.record⟩ c).1 = ⟨rs'.map Loose.record⟩ ∧ VacoloNeutral.encode (Vacolo.step ⟨rs.map Loose.record⟩ c).2 = zs
/-- the object is as it should be then, also without what was there besides -/
def Still (K : PySem.W.Frag) (X : Addr → Prop) (p a b a' b' : Addr) (rs rs' : List Rec) (H H' : Hp) : Prop := ∀ S : Addr → Bool, (∀ c, S c = true → H c ≠ none ∧ ¬ X c) → Held K (dl H S) p a b rs → Held K (dl H' S) p a' b' rs'
/-- it is answered so -/
def Ans (K : PySem.W.Frag) (X : Addr → Prop) (p a b : Addr) (H : Hp) (Q : VK) (rs : List Rec) (c : Vacolo.Call) : Prop := ∀ zs rs' H' l a' b', Due rs c zs rs' → Fr K p a b H H' → Tb K H' → Still K X p a b a' b' rs rs' H H' → (a' = a ∨ H a' = none) → (b' = b ∨ H b' = none) → H l = none → H' l = some (.lst (zs.map V.int)) → Q (.ref l) H'
theorem Ans.weak {X : Addr → Prop} {p a b : Addr} {H : Hp} {Q : VK} {rs : List Rec} {c : Vacolo.Call} (q : Ans K X p a b H Q rs c) : Ans K (fun _ => False) p a b H Q rs c := fun zs rs' H' l a' b' h1 h2 h3 h4 h5 h6 h7 h8 =>
  q zs rs' H' l a' b' h1 h2 h3 (fun S hS => h4 S fun c hc => ⟨(hS c hc).1, fun z => z⟩) h5 h6 h7 h8
/-- the rows stay -/
theorem Ans.stay {X : Addr → Prop} {p a b : Addr} {H : Hp} {Q : VK} {rs : List Rec} {c : Vacolo.Call} (q : Ans K X p a b H Q rs c) (h : Held K H p a b rs) (tb : Tb K H) (h1 : (Vacolo.step ⟨rs.map Loose.record⟩ c).1 = ⟨rs.map Loose.record⟩) {zs : List Int} {H' : Hp} {l : Addr} (h2 : VacoloNeutral.encode (Vacolo.step ⟨rs.map Loose.record⟩ c).2 = zs) (s : SmT K H H') (t : Tb K H') (hl : H l = none) (e : H' l = some (.lst (zs.map V.int))) : Q (.ref l) H' :=
  q zs rs H' l a b ⟨h1, h2⟩ s.fr t (fun S _ hS => hS.smtD s tb) (.inl rfl) (.inl rfl) hl e
def spTxt (K : PySem.W.Frag) (c : List Nat → Vacolo.Call) : Sp := fun vs H Q _ => ∃ (p a b t : Addr) (txt : List Nat) (rs : List Rec), vs = [.ref p, .ref t] ∧ Held K H p a b rs ∧ Tb K H ∧ H t = some (.lst (vT txt)) ∧ t ≠ a ∧ t ≠ b ∧ Ans K (fun z => z = t) p a b H Q rs (c txt)
def spInt (K : PySem.W.Frag) (c : Int → Vacolo.Call) : Sp := fun vs H Q _ => ∃ (p a b : Addr) (n : Int) (rs : List Rec), vs = [.ref p, .int n] ∧ Held K H p a b rs ∧ Tb K H ∧ Ans K (fun _ => False) p a b H Q rs (c n)
def spNo (K : PySem.W.Frag) (c : Vacolo.Call) : Sp := fun vs H Q _ => ∃ (p a b : Addr) (rs : List Rec), vs = [.ref p] ∧ Held K H p a b rs ∧ Tb K H ∧ Ans K (fun _ => False) p a b H Q rs c
/-! ### has -/
def isIn (n : Int) (k : Nat) : Bool := decide (0 ≤ n) && decide (n < (k : Int))
def spHas (K : PySem.W.Frag) : Sp := fun vs H Q _ => ∃ (p a b : Addr) (n : Int) (rs : List Rec), vs = [.ref p, .int n] ∧ Held K H p a b rs ∧ Q (.bl (isIn n rs.length)) H
theorem sc_H_has : FnScope ["self", "number"] ["self", "number"] (defScope s_H_has) := ⟨rfl, rfl, rfl, by decide +kernel, rfl, by decide +kernel, by decide +kernel⟩
theorem ok_H_has (T : Txt K mg) : DefOk P w K mg base CX0 1 (He.ma K (CRo K) "has") ["self", "number"] (spHas K) := by
  obtain ⟨fd, F⟩ := dT T defsC (.inr (.inr rfl)) 1 rfl
  refine ⟨fd, ?_, bind2 F fun _ _ _ _ _ _ _ _ => rfl, F.kp⟩
  have mlen := T.free "len" (by decide +kernel)
  refine F.ok sc_H_has (fun vs H Q E h => by obtain ⟨p, a, b, n, rs, rfl, _⟩ := h; rfl) (fun cdv A outer s H vs Q E hr h => ⟨_,
    pss_one (ps_ret (pe_and (pe_cmpR op_le pe_int (pv 1) (nomark _)) (pe_one (pe_cmpR op_lt (pv 1) (pe_callB (r := fun xs H Q => ∃ a ys, xs = [V.ref a] ∧ (SqL K H a ys ∨ SqT K H a ys) ∧ Q (.int ys.length) H) call_len_seq rfl mlen PySem.boot_len (pa_cons (pe_fld (pv 0) rfl) pa_nil)) (nomark _))))), ?_⟩)
  obtain ⟨p, a, b, n, rs, rfl, h, q⟩ := h
  obtain ⟨dx, hp⟩ := h.ins
  obtain ⟨tx, ha, ht⟩ := h.txt
  refine ⟨_, rfl, _, _, rfl, rfl, _, rfl, ifb (fun c => ?_) fun c => ?_⟩
  · refine ⟨_, rfl, _, rfl, p, _, dx, _, _, rfl, hp, tclH T, tnt2 T, hF_txt, a, tx, rfl, .inl (SqL.of ha), _, _, rfl, rfl, qb q ?_⟩
    unfold isIn
    rw [c, ht.len]
    rfl
  · exact qb q (by unfold isIn; rw [c] <;> rfl)
end SF
end -- S16

section -- S17
set_option Elab.async false
set_option linter.all false
set_option maxRecDepth 100000
set_option maxHeartbeats 8000000
/-! # S17: row, drop, schema -/
namespace SF
open PySem PySem.Spec PyProof.Rows L2
open LamX (CodeO TabS ExtN TabB)
open Vacolo (Loose found schemaOf readRow showRow)
open Vacola (showSchema)
variable {P : Program} {w : World} {K : PySem.W.Frag} {mg : Str → Option Value} {base : Heap}
theorem hF_no {a b : Addr} {m : Str} (h1 : (m == ("texts" : Str)) = false) (h2 : (m == ("records" : Str)) = false) : (hF a b).lookup m = none := (lk_past h1).trans ((lk_past h2).trans rfl)
theorem tmH (T : Txt K mg) (m : Str) (h : (("Rows" : Str), m) ∈ mNames) : Meth K (CRo K) m (He.ma K (CRo K) m) := T.meth (("Rows" : Str), m) h
theorem vT_nats (t : List Nat) : vT t = (VacoloNeutral.nats t).map V.int := by
  unfold VacoloNeutral.nats
  rw [List.map_map]
  rfl
theorem sized_v (t : List Nat) : [V.int ((t.length : Nat) : Int)] ++ vT t = (VacoloNeutral.sized t).map V.int := by
  rw [vT_nats]
  rfl
theorem cut_lo {xs : List V} {n : Nat} (h : n ≤ xs.length) : cutV xs none (some (n : Int)) = xs.take n := by
  unfold cutV
  rw [HT.sIx_nat, HT.sIx_none, List.drop_zero, Nat.sub_zero, Nat.min_eq_left h]
theorem cut_hi {xs : List V} {n : Nat} (h : n ≤ xs.length) : cutV xs (some (n : Int)) none = xs.drop n := by
  unfold cutV
  rw [HT.sIx_nat, HT.sIx_none, Nat.min_eq_left h]
  exact List.take_of_length_le (by rw [List.length_drop]; omega)
theorem at_no {rs : List Rec} {n : Int} (h : isIn n rs.length = false) : Vacolb.at? (rs.map Loose.record) n = none := by
  unfold Vacolb.at?
  unfold isIn at h
  split
  · rfl
  · rename_i hn
    rw [decide_eq_true (by omega : 0 ≤ n)] at h
    have := of_decide_eq_false (h : decide (n < (rs.length : Int)) = false)
    rw [List.getElem?_eq_none]
    rw [List.length_map]
    omega
theorem at_yes {rs : List Rec} {n : Int} (h : isIn n rs.length = true) : ∃ (k : Nat) (r : Rec), n = k ∧ k < rs.length ∧ rs[k]? = some r ∧ Vacolb.at? (rs.map Loose.record) n = some (.record r) := by
  unfold isIn at h
  rw [Bool.and_eq_true] at h
  have h1 := of_decide_eq_true h.1
  have h2 := of_decide_eq_true h.2
  have hk : n.toNat < rs.length := by omega
  refine ⟨n.toNat, rs[n.toNat], by omega, hk, List.getElem?_eq_getElem hk, ?_⟩
  unfold Vacolb.at?
  rw [if_neg (by omega), List.getElem?_map, List.getElem?_eq_getElem hk]
  rfl
theorem sc_H_row : FnScope ["self", "number"] ["self", "number"] (defScope s_H_row) := ⟨rfl, rfl, rfl, by decide +kernel, rfl, by decide +kernel, by decide +kernel⟩
theorem ok_H_row (T : Txt K mg) : DefOk P w K mg base CX0 2 (He.ma K (CRo K) "row") ["self", "number"] (spInt K .row) := by
  obtain ⟨fd, F⟩ := dT T defsC (.inr (.inr rfl)) 6 rfl
  refine ⟨fd, ?_, bind2 F fun _ _ _ _ _ _ _ _ => rfl, F.kp⟩
  have mlen := T.free "len" (by decide +kernel)
  refine F.ok sc_H_row (fun vs H Q E h => by obtain ⟨p, a, b, n, rs, rfl, _⟩ := h; rfl) (fun cdv A outer s H vs Q E hr h => ⟨_,
    (pss_cons (ps_if (pt_not (pt_val (pmeth (ok_H_has T) (pv 0) (tclH T) (tmH T "has" (by decide +kernel)) hr pass0 (pa_cons (pv 1) pa_nil)))) (pss_one (ps_ret (pe_lst (pa_cons (pgi (T.int ("NO_ROW", -3) (by decide +kernel))) pa_nil)))) pss_nil)
    (pss_one (ps_ret (pe_op op_cat (pe_lst (pa_cons (pe_callB (r := fun xs H Q => ∃ a ys, xs = [V.ref a] ∧ (SqL K H a ys ∨ SqT K H a ys) ∧ Q (.int ys.length) H) call_len_seq rfl mlen PySem.boot_len (pa_cons (pe_ix ix_list (pe_fld (pv 0) rfl) (pv 1) (fun _ _ => rfl)) pa_nil)) pa_nil)) (pe_ix ix_list (pe_fld (pv 0) rfl) (pv 1) (fun _ _ => rfl)))))), ?_⟩)
  obtain ⟨p, a, b, n, rs, rfl, h, tb, q⟩ := h
  obtain ⟨dx, hp⟩ := h.ins
  obtain ⟨tx, ha, ht⟩ := h.txt
  have hsz : sizeLine = 16777216 := rfl
  refine ⟨_, rfl, p, dx, _, rfl, hp, hF_no (by decide +kernel) (by decide +kernel), _, rfl, p, a, b, n, rs, rfl, h, _, rfl, ifb (fun c => ?_) fun c => ?_⟩
  · have c' : isIn n rs.length = false := by simpa using c
    refine ⟨(by show 1 ≤ sizeLine; decide), fun l hl => ?_⟩
    have s1 := same_new (H := H) (o := .lst [.int (-3)]) hl
    refine q.stay h tb rfl (zs := [-3]) ?_ (Same.t s1) (tb.same s1) hl upd_same
    show VacoloNeutral.encode (match Vacolb.at? (rs.map Loose.record) n with | none => Vacolo.Answer.refused (-3) | some v => .bytes (showRow v)) = _
    rw [at_no c']
    rfl
  · have c' : isIn n rs.length = true := by simpa using c
    obtain ⟨k, r, rfl, hk, hrk, hat⟩ := at_yes c'
    have hkt : k < tx.length := by rw [ht.len]; exact hk
    obtain ⟨t, r', e1, e2, e3⟩ := ht.at (List.getElem?_eq_getElem hkt)
    rw [hrk] at e2
    cases e2
    have hT : H t = some (.lst (vT (showRow (.record r)))) := by
      by_cases z : t = b
      · rw [z, del_same] at e3
        cases e3
      rw [del_ne z] at e3
      by_cases z2 : t = a
      · rw [z2, del_same] at e3
        cases e3
      rwa [del_ne z2] at e3
    have ex : tx[k]? = some (.ref t) := by rw [List.getElem?_eq_getElem hkt, e1]
    have hl4 := (h.ok.row r (List.mem_of_getElem? hrk)).2
    refine ⟨_, rfl, p, _, dx, _, _, rfl, hp, tclH T, tnt2 T, hF_txt, _, rfl, a, tx, k, _, rfl, rfl, SqL.of ha, atI_nat ex, t, _, rfl, .inl (SqL.of hT), (by show 1 ≤ sizeLine; decide), fun l hl => ?_⟩
    have s1 := same_new (H := H) (o := .lst [.int ((vT (showRow (.record r))).length : Nat)]) hl
    refine ⟨_, rfl, p, _, dx, _, _, rfl, s1 _ _ hp, tclH T, tnt2 T, hF_txt, _, rfl, a, tx, k, _, rfl, rfl, SqL.of (s1 _ _ ha), atI_nat ex, l, t, _, _, rfl, rfl, upd_same, s1 _ _ hT, ?_, fun l2 hl2 => ?_⟩
    · rw [List.length_map, List.length_singleton]
      omega
    have s2 := same_new (H := upd H l (.lst [.int ((vT (showRow (.record r))).length : Nat)])) (o := .lst ([.int ((vT (showRow (.record r))).length : Nat)] ++ vT (showRow (.record r)))) hl2
    have s12 := Same.trans s1 s2
    refine q.stay h tb rfl (zs := VacoloNeutral.sized (showRow (.record r))) ?_ (Same.t s12) (tb.same s12) (Same.fresh s1 hl2) ?_
    · show VacoloNeutral.encode (match Vacolb.at? (rs.map Loose.record) (k : Int) with | none => Vacolo.Answer.refused (-3) | some v => .bytes (showRow v)) = _
      rw [hat]
      rfl
    · rw [upd_same, ← sized_v, List.length_map]
end SF
end -- S17

section -- S18
set_option Elab.async false
set_option linter.all false
set_option maxRecDepth 100000
set_option maxHeartbeats 8000000
/-! # S18: schema, drop -/
namespace SF
open PySem PySem.Spec PyProof.Rows L2
open LamX (CodeO TabS ExtN TabB)
open Vacolo (Loose found schemaOf readRow showRow openKind)
open Vacola (showSchema)
variable {P : Program} {w : World} {K : PySem.W.Frag} {mg : Str → Option Value} {base : Heap}
theorem passNo {X : Cx} {P : Program} {w : World} : Passes (CXk P w) X (fun _ _ _ => False) := fun _ _ _ _ _ _ _ ⟨_, _, _, _, _, _, _, _, _, _, _, _, _, _, _, z⟩ => z.elim
theorem Held.few {H : Hp} {p a b : Addr} {rs : List Rec} (h : Held K H p a b rs) : rs.length ≤ 100 := h.ok.few
theorem schema_len {rs : List Rec} {fs : Vacola.Fields} (h : schemaOf (rs.map Loose.record) = .ok fs) : (showSchema fs).length ≤ 2000 := by
  unfold schemaOf at h
  split at h
  · cases h
  · split at h
    · cases h
    · split at h
      · cases h
      · rename_i hh
        cases h
        exact Nat.le_of_not_lt hh
  · cases h
theorem sc_H_schema : FnScope ["self", "found"] ["self"] (defScope s_H_schema) := ⟨rfl, rfl, rfl, by decide +kernel, rfl, by decide +kernel, by decide +kernel⟩
theorem ok_H_schema (T : Txt K mg) : DefOk P w K mg base CX0 31 (He.ma K (CRo K) "schema") ["self"] (spNo K .schema) := by
  obtain ⟨fd, F⟩ := dT T defsC (.inr (.inr rfl)) 7 rfl
  refine ⟨fd, ?_, bind1 F fun _ _ _ _ _ _ _ => rfl, F.kp⟩
  have nd := sc_H_schema.nd
  have mlen := T.free "len" (by decide +kernel)
  have mint := T.free "int" (by decide +kernel)
  refine F.ok sc_H_schema (fun vs H Q E h => by obtain ⟨p, a, b, rs, rfl, _⟩ := h; rfl) (fun cdv A outer s H vs Q E hr h => ⟨_,
    (pss_cons (ps_if (pt_cmpR (op_eqNil hr.units0) (pe_fld (pv 0) rfl) (pe_lst pa_nil) (nomark _)) (pss_one (ps_ret (pe_lst (pa_cons (pgi (T.int ("NO_ROWS", -7) (by decide +kernel))) pa_nil)))) pss_nil)
    (pss_cons (ps_set (i := 1) nd rfl (.inl rfl) (pcall (E := fun _ _ _ => False) (ok_schema_of T) hr (T.glo "schema_of" (by decide +kernel)) passNo (pa_cons (pe_fld (pv 0) rfl) pa_nil)))
    (pss_one (ps_ret (pe_op op_cat (pe_lst (pa_cons (pe_callTy call_int1 rfl mint (by decide +kernel) (pa_cons (pcall (ok_is_open T) (hr.mono (by omega)) (T.glo "is_open" (by decide +kernel)) pass0 (pa_cons (pv 1) pa_nil)) pa_nil)) (pa_cons (pe_callB (r := fun xs H Q => ∃ a ys, xs = [V.ref a] ∧ (SqL K H a ys ∨ SqT K H a ys) ∧ Q (.int ys.length) H) call_len_seq rfl mlen PySem.boot_len (pa_cons (pv 1) pa_nil)) pa_nil))) (pv 1)))))), ?_⟩)
  obtain ⟨p, a, b, rs, rfl, h, tb, q⟩ := h
  obtain ⟨dx, hp⟩ := h.ins
  obtain ⟨tx, ha, ht⟩ := h.txt
  obtain ⟨rx, hb, hR⟩ := h.rcs
  have hsz : sizeLine = 16777216 := rfl
  have htl := ht.len
  refine ⟨_, rfl, p, _, dx, _, _, rfl, hp, tclH T, tnt2 T, hF_txt, by show 0 ≤ sizeLine; decide, fun l0 hl0 => ?_⟩
  have s0 := same_new (H := H) (o := .lst []) hl0
  refine ⟨a, l0, tx, rfl, rfl, SqL.of (s0 _ _ ha), SqL.of upd_same, _, rfl, ifb (fun c => ?_) fun c => ?_⟩
  · have e : rs = [] := by
      have : tx = [] := List.isEmpty_iff.mp c
      rw [this] at htl
      exact List.length_eq_zero_iff.mp htl.symm
    subst e
    refine ⟨(by show 1 ≤ sizeLine; decide), fun l hl => ?_⟩
    have s1 := same_new (H := upd H l0 (.lst [])) (o := .lst [.int (-7)]) hl
    have s2 := Same.trans s0 s1
    exact q.stay h tb rfl (zs := [-7]) rfl (Same.t s2) (tb.same s2) (Same.fresh s0 hl) upd_same
  · have hne : rs ≠ [] := fun z => by
      rw [z] at htl
      rw [List.length_eq_zero_iff.mp htl] at c
      cases c
    obtain ⟨fs, hfs⟩ := h.ok.go.resolve_left hne
    have hA := ask_rows hne (by have := h.ok.few; omega) h.ok.row
    have hR0 : RLs H rx (rs.map Loose.record) := hR.mono fun c o e sq => by
      by_cases z : c = b
      · rw [z, del_same] at e
        cases e
      rw [del_ne z] at e
      by_cases z2 : c = a
      · rw [z2, del_same] at e
        cases e
      rwa [del_ne z2] at e
    refine ⟨_, rfl, p, _, dx, _, _, rfl, s0 _ _ hp, tclH T, tnr T, hF_rec, b, rx, rs, rfl, SqL.of (s0 _ _ hb), hR0.mono (Same.kp s0), hA, fun fs' e' H1 l1 s1 n1 h1 => ?_, fun c e' => by rw [hfs] at e'; cases e'⟩
    rw [hfs] at e'
    cases e'
    have s01 := Same.trans s0 s1
    have hlen := schema_len hfs
    refine ⟨_, rfl, l1, _, rfl, SqL.of h1, by omega, fun H2 s2 => .inr ⟨_, rfl, _, rfl, l1, _, rfl, .inl (SqL.of (s2 _ _ h1)), (by show 2 ≤ sizeLine; decide), fun l3 hl3 => ?_⟩⟩
    have s3 := same_new (H := H2) (o := .lst [.int (if side 123 125 (showSchema fs) = true then 1 else 0), .int ((vT (showSchema fs)).length : Nat)]) hl3
    refine ⟨_, rfl, l3, l1, _, _, rfl, rfl, upd_same, s3 _ _ (s2 _ _ h1), ?_, fun l4 hl4 => ?_⟩
    · rw [List.length_map]
      simp only [List.length_cons, List.length_nil]
      omega
    have s4 := same_new (H := upd H2 l3 (.lst [.int (if side 123 125 (showSchema fs) = true then 1 else 0), .int ((vT (showSchema fs)).length : Nat)])) (o := .lst ([.int (if side 123 125 (showSchema fs) = true then 1 else 0), .int ((vT (showSchema fs)).length : Nat)] ++ vT (showSchema fs))) hl4
    have sA := Same.trans s01 (Same.trans s2 (Same.trans s3 s4))
    refine q.stay h tb ?_ (zs := (if openKind (.group false fs) then 1 else 0) :: VacoloNeutral.sized (showSchema fs)) ?_ (Same.t sA) (tb.same sA) (Same.fresh (Same.trans s01 (Same.trans s2 s3)) hl4) ?_
    · rfl
    · show VacoloNeutral.encode (if (rs.map Loose.record).isEmpty = true then Vacolo.Answer.refused (-7) else match schemaOf (rs.map Loose.record) with | .ok fs => .told (if openKind (.group false fs) then 1 else 0) (showSchema fs) | .error _ => .refused (-7)) = _
      rw [hfs, if_neg (by simpa using hne)]
      show (((if openKind (.group false fs) = true then 1 else 0 : Nat) : Int)) :: _ = _
      cases openKind (.group false fs) <;> rfl
    · rw [upd_same, open_side hfs h.ok.row, List.length_map, List.map_cons, ← sized_v]
      cases openKind (.group false fs) <;> rfl
end SF
end -- S18

section -- S19
set_option Elab.async false
set_option linter.all false
set_option maxRecDepth 100000
set_option maxHeartbeats 8000000
/-! # S19: drop -/
namespace SF
open PySem PySem.Spec PyProof.Rows L2
open LamX (CodeO TabS ExtN TabB)
open Vacolo (Loose found schemaOf readRow showRow openKind)
open Vacola (showSchema)
variable {P : Program} {w : World} {K : PySem.W.Frag} {mg : Str → Option Value} {base : Heap}
theorem hF_pt {a b x : Addr} : putF "texts" (.ref x) (hF a b) = hF x b := put_here
theorem hF_pr {a b x : Addr} : putF "records" (.ref x) (hF a b) = hF a x := by
  unfold hF
  rw [put_past (by decide +kernel), put_here]
theorem rok_less {rs rs' : List Rec} (h : RokP rs) (hs : ∀ r ∈ rs', r ∈ rs) (hl : rs'.length ≤ rs.length) : RokP rs' := by
  have hf := h.few
  refine ⟨by omega, fun r hr => h.row r (hs r hr), ?_⟩
  by_cases z : rs' = []
  · exact .inl z
  · rcases h.go with e | ⟨fs, e⟩
    · subst e
      cases rs' with
      | nil => exact absurd rfl z
      | cons a l => exact absurd (hs a List.mem_cons_self) (by simp)
    · exact .inr (schema_less e (by omega) h.row z hs (by omega))
theorem cut_mem {A : Type} {l : List A} {n : Nat} {x : A} (h : x ∈ l.take n ++ l.drop (n + 1)) : x ∈ l := by
  rcases List.mem_append.mp h with z | z
  · exact List.mem_of_mem_take z
  · exact List.mem_of_mem_drop z
theorem cut_len {A : Type} {l : List A} {n : Nat} : (l.take n ++ l.drop (n + 1)).length ≤ l.length := by
  rw [List.length_append, List.length_take, List.length_drop]
  omega
theorem sc_H_drop : FnScope ["self", "number"] ["self", "number"] (defScope s_H_drop) := ⟨rfl, rfl, rfl, by decide +kernel, rfl, by decide +kernel, by decide +kernel⟩
theorem ok_H_drop (T : Txt K mg) : DefOk P w K mg base CX0 2 (He.ma K (CRo K) "drop") ["self", "number"] (spInt K .drop) := by
  obtain ⟨fd, F⟩ := dT T defsC (.inr (.inr rfl)) 9 rfl
  refine ⟨fd, ?_, bind2 F fun _ _ _ _ _ _ _ _ => rfl, F.kp⟩
  have mlen := T.free "len" (by decide +kernel)
  refine F.ok sc_H_drop (fun vs H Q E h => by obtain ⟨p, a, b, n, rs, rfl, _⟩ := h; rfl) (fun cdv A outer s H vs Q E hr h => ⟨_,
    (pss_cons (ps_if (pt_not (pt_val (pmeth (ok_H_has T) (pv 0) (tclH T) (tmH T "has" (by decide +kernel)) hr pass0 (pa_cons (pv 1) pa_nil)))) (pss_one (ps_ret (pe_lst (pa_cons (pgi (T.int ("NO_ROW", -3) (by decide +kernel))) pa_nil)))) pss_nil)
    (pss_cons (ps_fld (pv 0) (pe_op op_cat (pe_slice sl_list (pe_fld (pv 0) rfl) po_none (po_some (pv 1))) (pe_slice sl_list (pe_fld (pv 0) rfl) (po_some (pe_op op_add (pv 1) pe_int)) po_none)) rfl)
    (pss_cons (ps_fld (pv 0) (pe_op op_cat (pe_slice sl_list (pe_fld (pv 0) rfl) po_none (po_some (pv 1))) (pe_slice sl_list (pe_fld (pv 0) rfl) (po_some (pe_op op_add (pv 1) pe_int)) po_none)) rfl)
    (pss_one (ps_ret (pe_lst (pa_cons (pe_int) pa_nil))))))), ?_⟩)
  obtain ⟨p, a, b, n, rs, rfl, h, tb, q⟩ := h
  obtain ⟨dx, hp⟩ := h.ins
  obtain ⟨tx, ha, ht⟩ := h.txt
  obtain ⟨rx, hb, hR⟩ := h.rcs
  have hsz : sizeLine = 16777216 := rfl
  refine ⟨_, rfl, p, dx, _, rfl, hp, hF_no (by decide +kernel) (by decide +kernel), _, rfl, p, a, b, n, rs, rfl, h, _, rfl, ifb (fun c => ?_) fun c => ?_⟩
  · have c' : isIn n rs.length = false := by simpa using c
    refine ⟨(by show 1 ≤ sizeLine; decide), fun l hl => ?_⟩
    have s1 := same_new (H := H) (o := .lst [.int (-3)]) hl
    refine q.stay h tb ?_ (zs := [-3]) ?_ (Same.t s1) (tb.same s1) hl upd_same
    · show (match Vacolb.at? (rs.map Loose.record) n with | none => ((⟨rs.map Loose.record⟩ : Vacolo.State), Vacolo.Answer.refused (-3)) | some _ => (⟨Vacolo.without (rs.map Loose.record) n.toNat⟩, .number 0)).1 = _
      rw [at_no c']
    · show VacoloNeutral.encode (match Vacolb.at? (rs.map Loose.record) n with | none => ((⟨rs.map Loose.record⟩ : Vacolo.State), Vacolo.Answer.refused (-3)) | some _ => (⟨Vacolo.without (rs.map Loose.record) n.toNat⟩, .number 0)).2 = _
      rw [at_no c']
      rfl
  · have c' : isIn n rs.length = true := by simpa using c
    obtain ⟨k, r, rfl, hk, hrk, hat⟩ := at_yes c'
    have htl := ht.len
    have hrl : rx.length = rs.length := by rw [hR.len, List.length_map]
    have hfew := h.ok.few
    have e1 : cutV tx none (some (k : Int)) = tx.take k := cut_lo (by omega)
    have e2 : cutV tx (some ((k : Int) + 1)) none = tx.drop (k + 1) := cut_hi (n := k + 1) (by omega)
    have e3 : cutV rx none (some (k : Int)) = rx.take k := cut_lo (by omega)
    have e4 : cutV rx (some ((k : Int) + 1)) none = rx.drop (k + 1) := cut_hi (n := k + 1) (by omega)
    -- texts
    refine ⟨_, rfl, p, _, dx, _, _, rfl, hp, tclH T, tnt2 T, hF_txt, _, rfl, _, rfl, a, tx, rfl, SqL.of ha, fun l1 hl1 => ?_⟩
    rw [e1]
    have s1 := same_new (H := H) (o := .lst (tx.take k)) hl1
    refine ⟨_, rfl, p, _, dx, _, _, rfl, s1 _ _ hp, tclH T, tnt2 T, hF_txt, _, rfl, _, _, rfl, rfl, _, rfl, a, tx, rfl, SqL.of (s1 _ _ ha), fun l2 hl2 => ?_⟩
    rw [e2]
    have s2 := same_new (H := upd H l1 (.lst (tx.take k))) (o := .lst (tx.drop (k + 1))) hl2
    refine ⟨l1, l2, _, _, rfl, rfl, s2 _ _ upd_same, upd_same, ?_, fun x hx => ?_⟩
    · rw [List.length_take, List.length_drop]
      omega
    have s3 := same_new (H := upd (upd H l1 (.lst (tx.take k))) l2 (.lst (tx.drop (k + 1)))) (o := .lst (tx.take k ++ tx.drop (k + 1))) hx
    have sx := Same.trans s1 (Same.trans s2 s3)
    have hxH : H x = none := Same.fresh (Same.trans s1 s2) hx
    have hxx : upd (upd (upd H l1 (.lst (tx.take k))) l2 (.lst (tx.drop (k + 1)))) x (.lst (tx.take k ++ tx.drop (k + 1))) x = some (.lst (tx.take k ++ tx.drop (k + 1))) := upd_same
    generalize upd (upd (upd H l1 (.lst (tx.take k))) l2 (.lst (tx.drop (k + 1)))) x (.lst (tx.take k ++ tx.drop (k + 1))) = Ha at *
    refine ⟨_, rfl, p, _, dx, _, rfl, sx _ _ hp, tclH T, tnt2 T, (by show 2 < 1000; decide), ?_⟩
    rw [hF_pt]
    have hpx : p ≠ x := ne_of_none hp hxH
    have hpb : b ≠ p := ne_of hb hp (by intro z; cases z)
    have hp2 : upd Ha p (.ins (CRo K) dx (hF x b)) p = some (.ins (CRo K) dx (hF x b)) := upd_same
    have hb2 : upd Ha p (.ins (CRo K) dx (hF x b)) b = some (.lst rx) := by
      rw [upd_ne hpb]
      exact sx _ _ hb
    have hx2 : upd Ha p (.ins (CRo K) dx (hF x b)) x = some (.lst (tx.take k ++ tx.drop (k + 1))) := by
      rw [upd_ne hpx.symm]
      exact hxx
    have k2 : ∀ c o, H c = some o → c ≠ p → upd Ha p (.ins (CRo K) dx (hF x b)) c = some o := fun c o e z => by
      rw [upd_ne z]
      exact sx _ _ e
    have f2 : ∀ c, upd Ha p (.ins (CRo K) dx (hF x b)) c = none → H c = none := fun c e => by
      cases z : H c with
      | none => rfl
      | some o =>
        by_cases zz : c = p
        · rw [zz, hp2] at e
          cases e
        · rw [k2 c o z zz] at e
          cases e
    generalize upd Ha p (.ins (CRo K) dx (hF x b)) = Hb at *
    -- records
    refine ⟨_, rfl, p, _, dx, _, _, rfl, hp2, tclH T, tnr T, hF_rec, _, rfl, _, rfl, b, rx, rfl, SqL.of hb2, fun l3 hl3 => ?_⟩
    rw [e3]
    have s4 := same_new (H := Hb) (o := .lst (rx.take k)) hl3
    refine ⟨_, rfl, p, _, dx, _, _, rfl, s4 _ _ hp2, tclH T, tnr T, hF_rec, _, rfl, _, _, rfl, rfl, _, rfl, b, rx, rfl, SqL.of (s4 _ _ hb2), fun l4 hl4 => ?_⟩
    rw [e4]
    have s5 := same_new (H := upd Hb l3 (.lst (rx.take k))) (o := .lst (rx.drop (k + 1))) hl4
    refine ⟨l3, l4, _, _, rfl, rfl, s5 _ _ upd_same, upd_same, ?_, fun y hy => ?_⟩
    · rw [List.length_take, List.length_drop]
      omega
    have s6 := same_new (H := upd (upd Hb l3 (.lst (rx.take k))) l4 (.lst (rx.drop (k + 1)))) (o := .lst (rx.take k ++ rx.drop (k + 1))) hy
    have sy := Same.trans s4 (Same.trans s5 s6)
    have hyB : Hb y = none := Same.fresh (Same.trans s4 s5) hy
    have hyy : upd (upd (upd Hb l3 (.lst (rx.take k))) l4 (.lst (rx.drop (k + 1)))) y (.lst (rx.take k ++ rx.drop (k + 1))) y = some (.lst (rx.take k ++ rx.drop (k + 1))) := upd_same
    generalize upd (upd (upd Hb l3 (.lst (rx.take k))) l4 (.lst (rx.drop (k + 1)))) y (.lst (rx.take k ++ rx.drop (k + 1))) = Hc at *
    refine ⟨_, rfl, p, _, dx, _, rfl, sy _ _ hp2, tclH T, tnr T, (by show 2 < 1000; decide), ?_⟩
    rw [hF_pr]
    have hpy : p ≠ y := ne_of_none hp2 hyB
    have hxy : x ≠ y := ne_of_none hx2 hyB
    have hyH : H y = none := f2 y hyB
    refine ⟨(by show 1 ≤ sizeLine; decide), fun l hl => ?_⟩
    have s7 := same_new (H := upd Hc p (.ins (CRo K) dx (hF x y))) (o := .lst [.int 0]) hl
    have kA : ∀ c o, H c = some o → c ≠ p → upd (upd Hc p (.ins (CRo K) dx (hF x y))) l (.lst [.int 0]) c = some o := fun c o e z => s7 _ _ (by
      rw [upd_ne z]
      exact sy _ _ (k2 c o e z))
    have hlH : H l = none := by
      cases z : H l with
      | none => rfl
      | some o =>
        by_cases zz : l = p
        · rw [zz, upd_same] at hl
          cases hl
        · rw [upd_ne zz, sy _ _ (k2 l o z zz)] at hl
          cases hl
    have er : (rs.take k ++ rs.drop (k + 1)).map Loose.record = (rs.map Loose.record).take k ++ (rs.map Loose.record).drop (k + 1) := by
      rw [List.map_append, List.map_take, List.map_drop]
    refine q [0] (rs.take k ++ rs.drop (k + 1)) _ l x y ⟨?_, ?_⟩ (fun c o e n1 n2 n3 n4 => kA c o e n2) ?_ (fun S hS hh => ?_) (.inr hxH) (.inr hyH) hlH upd_same
    · show (match Vacolb.at? (rs.map Loose.record) (k : Int) with | none => ((⟨rs.map Loose.record⟩ : Vacolo.State), Vacolo.Answer.refused (-3)) | some _ => (⟨Vacolo.without (rs.map Loose.record) (k : Int).toNat⟩, .number 0)).1 = _
      rw [hat]
      show (⟨Vacolo.without (rs.map Loose.record) (k : Int).toNat⟩ : Vacolo.State) = _
      unfold Vacolo.without
      rw [er, Int.toNat_natCast, List.eraseIdx_eq_take_drop_succ]
    · show VacoloNeutral.encode (match Vacolb.at? (rs.map Loose.record) (k : Int) with | none => ((⟨rs.map Loose.record⟩ : Vacolo.State), Vacolo.Answer.refused (-3)) | some _ => (⟨Vacolo.without (rs.map Loose.record) (k : Int).toNat⟩, .number 0)).2 = _
      rw [hat]
      rfl
    · obtain ⟨ps, h1, h2, h3⟩ := tb
      refine ⟨ps, kA _ _ h1 (ne_of h1 hp (by intro z; cases z)), h2, fun pos cv hh => ?_⟩
      obtain ⟨c0, u1, u2⟩ := h3 pos cv hh
      exact ⟨c0, u1, kA _ _ u2 (ne_of u2 hp (by intro z; unfold CodeO at z; cases z))⟩
    · obtain ⟨⟨dx', g1⟩, ⟨tx', g2, g3⟩, ⟨rx', g4, g5⟩, g6, g7⟩ := hh
      obtain ⟨u1, v1⟩ := dl_some g1
      obtain ⟨u2, v2⟩ := dl_some g2
      obtain ⟨u4, v4⟩ := dl_some g4
      rw [hp] at v1
      cases v1
      rw [ha] at v2
      cases v2
      rw [hb] at v4
      cases v4
      have sx0 : S x = false := by
        cases z : S x with
        | false => rfl
        | true => exact absurd hxH (hS x z).1
      have sy0 : S y = false := by
        cases z : S y with
        | false => rfl
        | true => exact absurd hyH (hS y z).1
      have kp : KpS (del (del (dl H S) a) b) (del (del (dl (upd (upd Hc p (.ins (CRo K) dx (hF x y))) l (.lst [.int 0])) S) x) y) := fun c o e sq => by
        by_cases z : c = b
        · rw [z, del_same] at e
          cases e
        rw [del_ne z] at e
        by_cases z2 : c = a
        · rw [z2, del_same] at e
          cases e
        rw [del_ne z2] at e
        obtain ⟨uc, ec⟩ := dl_some e
        have n1 : c ≠ y := ne_of_none ec hyH
        have n2 : c ≠ x := ne_of_none ec hxH
        have n3 : c ≠ p := fun zz => by
          rw [zz, hp] at ec
          obtain ⟨xs, u | u⟩ := sq <;> rw [u] at ec <;> cases ec
        rw [del_ne n1, del_ne n2, dl_of uc]
        exact kA c o ec n3
      refine ⟨⟨dx, ?_⟩, ⟨_, ?_, (g3.cut k).mono kp⟩, ⟨rx.take k ++ rx.drop (k + 1), ?_, ?_⟩, hxy, rok_less h.ok (fun r hr => cut_mem hr) cut_len⟩
      · rw [dl_of u1]
        exact s7 _ _ upd_same
      · rw [dl_of sx0]
        refine s7 _ _ ?_
        rw [upd_ne hpx.symm]
        exact sy _ _ hx2
      · rw [dl_of sy0]
        refine s7 _ _ ?_
        rw [upd_ne hpy.symm]
        exact hyy
      · rw [er]
        exact (g5.cut k).mono kp
end SF
end -- S19

section -- S20
set_option Elab.async false
set_option linter.all false
set_option maxRecDepth 100000
set_option maxHeartbeats 8000000
/-! # S20: add, why -/
namespace SF
open PySem PySem.Spec PyProof.Rows L2
open LamX (CodeO TabS ExtN TabB)
open Vacolo (Loose found schemaOf readRow showRow openKind)
open Vacola (showSchema)
variable {P : Program} {w : World} {K : PySem.W.Frag} {mg : Str → Option Value} {base : Heap}
theorem RLs.of_del {H : Hp} {a b : Addr} {xs : List V} {vs : List Loose} (h : RLs (del (del H a) b) xs vs) : RLs H xs vs := h.mono fun c o e sq => by
  by_cases z : c = b
  · rw [z, del_same] at e
    cases e
  rw [del_ne z] at e
  by_cases z2 : c = a
  · rw [z2, del_same] at e
    cases e
  rwa [del_ne z2] at e
theorem RL.of_nw {H0 H : Hp} {x : V} {v : Loose} (h : RL (nw H0 H) x v) : RL H x v := h.mono fun c o e sq => (nw_some e).2
/-- the rows as they lie, and what is asked with one more -/
theorem Held.more {H : Hp} {p a b : Addr} {rs : List Rec} {r : Rec} (h : Held K H p a b rs) (hr : RowP r) : ∃ rx, H b = some (.lst rx) ∧ RLs H rx (rs.map Loose.record) ∧ AskAt 7 ((rs ++ [r]).map Loose.record) ∧ rx.length ≤ 1000 := by
  obtain ⟨rx, hb, hR⟩ := h.rcs
  have hf := h.ok.few
  refine ⟨rx, hb, hR.of_del, ask_rows (by simp) (by simp; omega) (fun r' hr' => ?_), ?_⟩
  · rcases List.mem_append.mp hr' with z | z
    · exact h.ok.row _ z
    · rw [List.mem_singleton.mp z]
      exact hr
  · rw [hR.len, List.length_map]
    omega
/-- what a fault answers -/
theorem add_bad {rs : List Rec} {t : List Nat} {f : Vacola.Fault} (h : readRow t = .error f) : Due rs (.add t) [-1] rs := by
  unfold Due
  show (Vacolo.adds _ t).1 = _ ∧ VacoloNeutral.encode (Vacolo.adds _ t).2 = _
  unfold Vacolo.adds
  rw [h]
  exact ⟨rfl, rfl⟩
theorem add_full {rs : List Rec} {t : List Nat} {v : Loose} (h : readRow t = .ok v) (hl : rs.length = 100) : Due rs (.add t) [-5] rs := by
  unfold Due
  show (Vacolo.adds _ t).1 = _ ∧ VacoloNeutral.encode (Vacolo.adds _ t).2 = _
  unfold Vacolo.adds
  rw [h]
  dsimp only
  rw [if_pos (by rw [List.length_map, hl]; decide)]
  exact ⟨rfl, rfl⟩
theorem map_snoc (rs : List Rec) (r : Rec) : rs.map Loose.record ++ [Loose.record r] = (rs ++ [r]).map Loose.record := by
  rw [List.map_append]
  rfl
theorem add_clash {rs : List Rec} {t : List Nat} {r : Rec} {c : Vacolo.Clash} (h : readRow t = .ok (.record r)) (hl : rs.length < 100) (hc : schemaOf ((rs ++ [r]).map Loose.record) = .error c) : Due rs (.add t) [-10 - (c.number : Int)] rs := by
  unfold Due
  show (Vacolo.adds _ t).1 = _ ∧ VacoloNeutral.encode (Vacolo.adds _ t).2 = _
  unfold Vacolo.adds
  rw [h]
  dsimp only
  rw [if_neg (by rw [List.length_map]; show ¬ 100 ≤ rs.length; omega), map_snoc, hc]
  exact ⟨rfl, rfl⟩
theorem add_ok {rs : List Rec} {t : List Nat} {r : Rec} {fs : Vacola.Fields} (h : readRow t = .ok (.record r)) (hl : rs.length < 100) (hc : schemaOf ((rs ++ [r]).map Loose.record) = .ok fs) : Due rs (.add t) [(rs.length : Int)] (rs ++ [r]) := by
  unfold Due
  show (Vacolo.adds _ t).1 = _ ∧ VacoloNeutral.encode (Vacolo.adds _ t).2 = _
  unfold Vacolo.adds
  rw [h]
  dsimp only
  rw [if_neg (by rw [List.length_map]; show ¬ 100 ≤ rs.length; omega), map_snoc, hc]
  exact ⟨rfl, by rw [List.length_map]; rfl⟩
theorem rok_more {rs : List Rec} {r : Rec} {fs : Vacola.Fields} (h : RokP rs) (hr : RowP r) (hl : rs.length < 100) (hc : schemaOf ((rs ++ [r]).map Loose.record) = .ok fs) : RokP (rs ++ [r]) := by
  refine ⟨by simp; omega, fun r' hr' => ?_, .inr ⟨fs, hc⟩⟩
  rcases List.mem_append.mp hr' with z | z
  · exact h.row _ z
  · rw [List.mem_singleton.mp z]
    exact hr
theorem Tb.kept {H H' : Hp} (t : Tb K H) (k : ∀ c o, H c = some o → (∀ ps, o ≠ .lst ps) → (∀ C dx fs, o ≠ .ins C dx fs) → H' c = some o) : Tb K H' := by
  obtain ⟨ps, h1, h2, h3⟩ := t
  refine ⟨ps, k _ _ h1 (by intro _ z; cases z) (by intro _ _ _ z; cases z), h2, fun pos cv hh => ?_⟩
  obtain ⟨c0, u1, u2⟩ := h3 pos cv hh
  exact ⟨c0, u1, k _ _ u2 (by intro _ z; unfold CodeO at z; cases z) (by intro _ _ _ z; unfold CodeO at z; cases z)⟩
abbrev cxD (P : Program) (w : World) (K : PySem.W.Frag) (mg : Str → Option Value) (base : Heap) (N : List Str) (q : Str) (st : Stmt) (m : Str) (cdv : Value) (A : Around) (outer : List Env) (s : Shared) (H : Hp) (E : XK) : Cx := (cxOf CX0 P w K mg base N q (defScope st) (He.ma K (CRo K) m) cdv A outer s H E).nox
theorem sc_H_add : FnScope ["self", "text", "value", "number"] ["self", "text"] (defScope s_H_add) := ⟨rfl, rfl, rfl, by decide +kernel, rfl, by decide +kernel, by decide +kernel⟩
theorem ok_H_add (T : Txt K mg) (TB : TabB base mg (He.cT K dStr).1 (He.cT K dStr).2) : DefOk P w K mg base CX0 51 (He.ma K (CRo K) "add") ["self", "text"] (spTxt K .add) := by
  obtain ⟨fd, F⟩ := dT T defsC (.inr (.inr rfl)) 4 rfl
  refine ⟨fd, ?_, bind2 F fun _ _ _ _ _ _ _ _ => rfl, F.kp⟩
  have nd := sc_H_add.nd
  have mlen := T.free "len" (by decide +kernel)
  obtain ⟨c1, c2, c3, c4, c5⟩ := T.exc "Fault" (by decide +kernel)
  obtain ⟨fdS, FS, bS, kS⟩ := (ok_row_read (P := P) (w := w) (base := base) T TB).ex
  refine F.ok sc_H_add (fun vs H Q E h => by obtain ⟨p, a, b, t, txt, rs, rfl, _⟩ := h; rfl) (fun cdv A outer s H vs Q E hr h => ⟨_,
    (pss_cons (ps_try_only (x := "Fault") (c := .ref (CF K)) rfl rfl ⟨rfl, by decide, .inl (T.glo "Fault" (by decide +kernel))⟩ takes0
        (fun W pn xe tk po => (pss_one (ps_set (i := 2) nd rfl (.inl rfl) (pe_callS (E := WE W) FS hr rfl (T.glo "row_read" (by decide +kernel)) kS bS (fun σ pins H1 s1 e s' I c => passAt tk σ pins H1 s1 e s' I c) (pa_cons (pv 1) pa_nil)))))
        (fun a oe cls d pn hz hd => (pss_one (ps_ret (pe_lst (pa_cons (pgi (T.int ("FAULTY", -1) (by decide +kernel))) pa_nil))))))
    (pss_cons (ps_if (pt_cmpR op_eq (pe_callB (r := fun xs H Q => ∃ a ys, xs = [V.ref a] ∧ (SqL K H a ys ∨ SqT K H a ys) ∧ Q (.int ys.length) H) call_len_seq rfl mlen PySem.boot_len (pa_cons (pe_fld (pv 0) rfl) pa_nil)) (pgi (T.int ("MOST_ROWS", 100) (by decide +kernel))) (nomark _)) (pss_one (ps_ret (pe_lst (pa_cons (pgi (T.int ("FULL", -5) (by decide +kernel))) pa_nil)))) pss_nil)
    (pss_cons (ps_set (i := 3) nd rfl (.inl rfl) (pe_ix ix_tup (pmeth (ok_H_clash_with T) (pv 0) (tclH T) (tmH T "clash_with" (by decide +kernel)) (hr.mono (by omega)) pass0 (pa_cons (pv 2) pa_nil)) pe_int (fun _ _ => rfl)))
    (pss_cons (ps_if (pt_cmpR op_gt (pv 3) pe_int (nomark _)) (pss_one (ps_ret (pe_lst (pa_cons (pe_op op_sub (pgi (T.int ("CLASHES", -10) (by decide +kernel))) (pv 3)) pa_nil)))) pss_nil)
    (pss_cons (ps_expr (pe_bm PySem.F.plainAttrs_list PySem.F.slot_list_append PySem.F.type_list_append mt_append (pe_fld (pv 0) rfl) (pa_cons (pv 1) pa_nil)))
    (pss_cons (ps_expr (pe_bm PySem.F.plainAttrs_list PySem.F.slot_list_append PySem.F.type_list_append mt_append (pe_fld (pv 0) rfl) (pa_cons (pv 2) pa_nil)))
    (pss_one (ps_ret (pe_lst (pa_cons (pe_op op_sub (pe_callB (r := fun xs H Q => ∃ a ys, xs = [V.ref a] ∧ (SqL K H a ys ∨ SqT K H a ys) ∧ Q (.int ys.length) H) call_len_seq rfl mlen PySem.boot_len (pa_cons (pe_fld (pv 0) rfl) pa_nil)) pe_int) pa_nil)))))))))), ?_⟩)
  obtain ⟨p, a, b, t, txt, rs, rfl, h, tb, hT, nta, ntb, q⟩ := h
  obtain ⟨dx, hp⟩ := h.ins
  obtain ⟨tx, ha, ht⟩ := h.txt
  have hsz : sizeLine = 16777216 := rfl
  refine ⟨_, rfl, t, txt, rfl, SqL.of hT, tb, fun v hv H1 x s1 t1 rx0 => ?_, fun f hf d H1 hd hd1 s1 t1 => ⟨true, c5, fun _ e he => ?_, fun z => by cases z⟩⟩
  rotate_left
  · refine ⟨(by show 1 ≤ sizeLine; decide), fun l hl => ?_⟩
    have s2 := same_new (H := H1) (o := .lst [.int (-1)]) hl
    exact q.stay h tb (add_bad hf).1 (add_bad hf).2 (s1.trans (Same.t s2)) (Tb.same t1 s2) (SmT.fresh s1 t1 hl) upd_same
  obtain ⟨r, rfl, hrow, hshow⟩ := row_taken hv
  have h1 := h.smt s1 tb
  obtain ⟨rx, hb1, hR1, hA, hlen⟩ := h1.more hrow
  have hp1 := s1 _ _ hp (tb.ne hp (by intro _ z; cases z))
  have ha1 := s1 _ _ ha (tb.ne ha (by intro _ z; cases z))
  have hfew := h.ok.few
  have htl := ht.len
  refine ⟨_, rfl, p, _, dx, _, _, rfl, hp1, tclH T, tnt2 T, hF_txt, a, tx, rfl, .inl (SqL.of ha1), rfl, _, rfl, ifb (fun c => ?_) fun c => ?_⟩
  · rw [dec_int, ← dib] at c
    have c' : (tx.length : Int) = 100 := of_decide_eq_true c
    refine ⟨(by show 1 ≤ sizeLine; decide), fun l hl => ?_⟩
    have s2 := same_new (H := H1) (o := .lst [.int (-5)]) hl
    exact q.stay h tb (add_full hv (by omega)).1 (add_full hv (by omega)).2 (s1.trans (Same.t s2)) (Tb.same t1 s2) (SmT.fresh s1 t1 hl) upd_same
  rw [dec_int, ← dib] at c
  have c' : ¬ (tx.length : Int) = 100 := of_decide_eq_false c
  have hlt : rs.length < 100 := by omega
  refine ⟨_, rfl, p, dx, _, rfl, hp1, hF_no (by decide +kernel) (by decide +kernel), _, rfl, p, dx, a, b, x, rx, rs, r, rfl, hp1, hb1, hR1, rx0.of_nw, hA, hlen, fun H2 tt l ys s2 htt hl2 hN => ?_⟩
  refine ⟨tt, _, 0, _, rfl, rfl, SqT.of htt, atI_nat (j := 0) rfl, _, rfl, _, _, rfl, rfl, _, rfl, ifb (fun c2 => ?_) fun c2 => ?_⟩
  · have c2' : (((clashOf (rs ++ [r])).1 : Nat) : Int) > 0 := of_decide_eq_true c2
    have hcl : ∃ c, schemaOf ((rs ++ [r]).map Loose.record) = .error c ∧ (clashOf (rs ++ [r])).1 = c.number := by
      unfold clashOf at c2' ⊢
      cases e : schemaOf ((rs ++ [r]).map Loose.record) with
      | ok fs =>
        rw [e] at c2'
        exact absurd c2' (by simp)
      | error c => exact ⟨c, rfl, rfl⟩
    obtain ⟨c, hc, hn⟩ := hcl
    refine ⟨_, rfl, _, _, rfl, rfl, (by show 1 ≤ sizeLine; decide), fun l4 hl4 => ?_⟩
    rw [hn] at *
    have s3 := same_new (H := H2) (o := .lst [.int (-10 - (c.number : Int))]) hl4
    have hd := add_clash hv hlt hc
    exact q.stay h tb hd.1 hd.2 (s1.trans (Same.t (Same.trans s2 s3))) (Tb.same t1 (Same.trans s2 s3)) (SmT.fresh s1 t1 (Same.fresh s2 hl4)) upd_same
  have c2' : ¬ (((clashOf (rs ++ [r])).1 : Nat) : Int) > 0 := of_decide_eq_false c2
  have hok : ∃ fs, schemaOf ((rs ++ [r]).map Loose.record) = .ok fs := by
    unfold clashOf at c2'
    cases e : schemaOf ((rs ++ [r]).map Loose.record) with
    | ok fs => exact ⟨fs, rfl⟩
    | error c =>
      rw [e] at c2'
      have := clash_pos e
      exact absurd (show ((c.number : Nat) : Int) > 0 by omega) c2'
  obtain ⟨fs, hfs⟩ := hok
  have hp2 := s2 _ _ hp1
  have ha2 := s2 _ _ ha1
  have hb2 := s2 _ _ hb1
  have nab := h.ne
  have nap : a ≠ p := ne_of ha hp (by intro z; cases z)
  have nbp : b ≠ p := ne_of hb1 hp1 (by intro z; cases z)
  have hrl := h1.rcs
  refine ⟨_, rfl, p, _, dx, _, _, rfl, hp2, tclH T, tnt2 T, hF_txt, .inl ⟨rfl, _, SqL.of ha2⟩, _, rfl, a, tx, _, rfl, rfl, ha2, by omega, ?_⟩
  have hp3 : upd H2 a (.lst (tx ++ [.ref t])) p = some (.ins (CRo K) dx (hF a b)) := by
    rw [upd_ne nap.symm]
    exact hp2
  have hb3 : upd H2 a (.lst (tx ++ [.ref t])) b = some (.lst rx) := by
    rw [upd_ne nab.symm]
    exact hb2
  refine ⟨_, rfl, p, _, dx, _, _, rfl, hp3, tclH T, tnr T, hF_rec, .inl ⟨rfl, _, SqL.of hb3⟩, _, rfl, b, rx, _, rfl, rfl, hb3, by omega, ?_⟩
  have hp4 : upd (upd H2 a (.lst (tx ++ [.ref t]))) b (.lst (rx ++ [x])) p = some (.ins (CRo K) dx (hF a b)) := by
    rw [upd_ne nbp.symm]
    exact hp3
  have ha4 : upd (upd H2 a (.lst (tx ++ [.ref t]))) b (.lst (rx ++ [x])) a = some (.lst (tx ++ [.ref t])) := by
    rw [upd_ne nab]
    exact upd_same
  refine ⟨_, rfl, p, _, dx, _, _, rfl, hp4, tclH T, tnt2 T, hF_txt, a, _, rfl, .inl (SqL.of ha4), _, _, rfl, rfl, (by show 1 ≤ sizeLine; decide), fun l5 hl5 => ?_⟩
  have s5 := same_new (H := upd (upd H2 a (.lst (tx ++ [.ref t]))) b (.lst (rx ++ [x]))) (o := .lst [.int (((tx ++ [V.ref t]).length : Nat) - 1 : Int)]) hl5
  -- what stood outside
  have kA : ∀ c o, H2 c = some o → c ≠ a → c ≠ b → upd (upd (upd H2 a (.lst (tx ++ [.ref t]))) b (.lst (rx ++ [x]))) l5 (.lst [.int (((tx ++ [V.ref t]).length : Nat) - 1 : Int)]) c = some o := fun c o e z1 z2 => s5 _ _ (by
    rw [upd_ne z2, upd_ne z1]
    exact e)
  have hT1 : H1 t = some (.lst (vT (showRow (.record r)))) := by
    rw [hshow]
    exact s1 _ _ hT (tb.ne hT (by intro _ z; cases z))
  refine q [(rs.length : Int)] (rs ++ [r]) _ l5 a b (add_ok hv hlt hfs) (fun c o e n0 n1 n2 n3 => kA c o (s2 _ _ (s1 _ _ e n0)) n2 n3) ?_ (fun S hS hh => ?_) (.inl rfl) (.inl rfl) ?_ ?_
  · exact Tb.kept t1 fun c o e z1 _ => kA c o (s2 _ _ e) (fun z => by rw [z, ha1] at e; cases e; exact z1 _ rfl) (fun z => by rw [z, hb1] at e; cases e; exact z1 _ rfl)
  · obtain ⟨⟨dx', g1⟩, ⟨tx', g2, g3⟩, ⟨rx', g4, g5⟩, g6, g7⟩ := hh
    obtain ⟨u1, v1⟩ := dl_some g1
    obtain ⟨u2, v2⟩ := dl_some g2
    obtain ⟨u4, v4⟩ := dl_some g4
    rw [hp] at v1
    cases v1
    rw [ha] at v2
    cases v2
    obtain ⟨rx0', hb, _⟩ := h.rcs
    have hrx : rx' = rx := by
      have := s1 _ _ v4 (tb.ne v4 (by intro _ z; cases z))
      rw [hb1] at this
      cases this
      rfl
    subst hrx
    have ut : S t = false := by
      cases z : S t with
      | false => rfl
      | true => exact absurd rfl (hS t z).2
    have kK : KpS (del (del (dl H S) a) b) (del (del (dl (upd (upd (upd H2 a (.lst (tx ++ [.ref t]))) b (.lst (rx' ++ [x]))) l5 (.lst [.int (((tx ++ [V.ref t]).length : Nat) - 1 : Int)])) S) a) b) := fun c o e sq => by
      by_cases z : c = b
      · rw [z, del_same] at e
        cases e
      rw [del_ne z] at e ⊢
      by_cases z2 : c = a
      · rw [z2, del_same] at e
        cases e
      rw [del_ne z2] at e ⊢
      obtain ⟨uc, ec⟩ := dl_some e
      rw [dl_of uc]
      exact kA c o (s2 _ _ (s1.kp tb c o ec sq)) z2 z
    refine ⟨⟨dx, ?_⟩, ⟨tx ++ [.ref t], ?_, (g3.mono kK).app (t := t) ?_⟩, ⟨rx' ++ [x], ?_, ?_⟩, nab, rok_more h.ok hrow hlt hfs⟩
    · rw [dl_of u1]
      exact s5 _ _ hp4
    · rw [dl_of u2]
      exact s5 _ _ ha4
    · rw [del_ne ntb, del_ne nta, dl_of ut]
      exact kA t _ (s2 _ _ hT1) nta ntb
    · rw [dl_of u4]
      exact s5 _ _ upd_same
    · rw [← map_snoc]
      refine (g5.mono kK).app (rx0.mono fun c o e sq => ?_)
      obtain ⟨z0, z1⟩ := nw_some e
      have na : c ≠ a := fun z => by rw [z, ha] at z0; cases z0
      have nb : c ≠ b := fun z => by
        rw [z, hb] at z0
        cases z0
      have uc : S c = false := by
        cases z : S c with
        | false => rfl
        | true => exact absurd z0 (hS c z).1
      rw [del_ne nb, del_ne na, dl_of uc]
      exact kA c o (s2 _ _ z1) na nb
  · refine SmT.fresh s1 t1 (Same.fresh s2 ?_)
    have n1 : l5 ≠ b := fun z => by rw [z, upd_same] at hl5; cases hl5
    have n2 : l5 ≠ a := fun z => by rw [z, ha4] at hl5; cases hl5
    rwa [upd_ne n1, upd_ne n2] at hl5
  · rw [upd_same]
    show some (HO.lst [V.int (((tx ++ [V.ref t]).length : Nat) - 1 : Int)]) = some (.lst [V.int (rs.length : Int)])
    have : ((((tx ++ [V.ref t]).length : Nat) : Int) - 1) = (rs.length : Int) := by
      rw [List.length_append, List.length_singleton]
      omega
    rw [this]
end SF
end -- S20

section -- S21
set_option Elab.async false
set_option linter.all false
set_option maxRecDepth 100000
set_option maxHeartbeats 8000000
/-! # S21: why, alike -/
namespace SF
open PySem PySem.Spec PyProof.Rows L2
open LamX (CodeO TabS ExtN TabB)
open Vacolo (Loose found schemaOf readRow showRow openKind withText textOf)
open Vacola (showSchema joinDots)
variable {P : Program} {w : World} {K : PySem.W.Frag} {mg : Str → Option Value} {base : Heap}
theorem due_stay {rs : List Rec} {c : Vacolo.Call} {zs : List Int} (h1 : (Vacolo.step ⟨rs.map Loose.record⟩ c).1 = ⟨rs.map Loose.record⟩) (h2 : VacoloNeutral.encode (Vacolo.step ⟨rs.map Loose.record⟩ c).2 = zs) : Due rs c zs rs := ⟨h1, h2⟩
theorem why_bad {rs : List Rec} {t : List Nat} {f : Vacola.Fault} (h : readRow t = .error f) : Due rs (.why t) [-1] rs := by
  refine ⟨rfl, ?_⟩
  show VacoloNeutral.encode (withText t _) = _
  unfold withText
  rw [h]
  rfl
theorem why_due {rs : List Rec} {t : List Nat} {r : Rec} (h : readRow t = .ok (.record r)) : Due rs (.why t) (((clashOf (rs ++ [r])).1 : Int) :: VacoloNeutral.sized (joinDots (clashOf (rs ++ [r])).2)) rs := by
  refine ⟨rfl, ?_⟩
  show VacoloNeutral.encode (withText t _) = _
  unfold withText
  rw [h]
  dsimp only
  rw [map_snoc]
  unfold clashOf
  cases schemaOf ((rs ++ [r]).map Loose.record) <;> rfl
theorem alike_bad {rs : List Rec} {t : List Nat} {f : Vacola.Fault} (h : readRow t = .error f) : Due rs (.alike t) [-1] rs := by
  refine ⟨rfl, ?_⟩
  show VacoloNeutral.encode (withText t _) = _
  unfold withText
  rw [h]
  rfl
theorem alike_none {t : List Nat} {v : Loose} (h : readRow t = .ok v) : Due [] (.alike t) [-7] [] := by
  refine ⟨rfl, ?_⟩
  show VacoloNeutral.encode (withText t _) = _
  unfold withText
  rw [h]
  rfl
theorem alike_clash {rs : List Rec} {t : List Nat} {r : Rec} {c : Vacolo.Clash} (h : readRow t = .ok (.record r)) (hne : rs ≠ []) (hc : schemaOf ((rs ++ [r]).map Loose.record) = .error c) : Due rs (.alike t) [-10 - (c.number : Int)] rs := by
  refine ⟨rfl, ?_⟩
  show VacoloNeutral.encode (withText t _) = _
  unfold withText
  rw [h]
  dsimp only
  rw [if_neg (by simpa using hne), map_snoc, hc]
  rfl
theorem textOf_ok {rs : List Rec} {fs : Vacola.Fields} (hne : rs ≠ []) (hf : schemaOf (rs.map Loose.record) = .ok fs) : textOf (rs.map Loose.record) = some (showSchema fs) := by
  unfold textOf
  rw [if_neg (by simpa using hne), hf]
theorem alike_ok {rs : List Rec} {t : List Nat} {r : Rec} {fs fs0 : Vacola.Fields} (h : readRow t = .ok (.record r)) (hne : rs ≠ []) (hc : schemaOf ((rs ++ [r]).map Loose.record) = .ok fs) (hf : schemaOf (rs.map Loose.record) = .ok fs0) : Due rs (.alike t) [if showSchema fs = showSchema fs0 then 1 else 0] rs := by
  refine ⟨rfl, ?_⟩
  show VacoloNeutral.encode (withText t _) = _
  unfold withText
  rw [h]
  dsimp only
  rw [if_neg (by simpa using hne), map_snoc, hc]
  dsimp only
  rw [textOf_ok hne hf]
  by_cases z : showSchema fs = showSchema fs0
  · rw [if_pos z, if_pos (congrArg some z)]
    rfl
  · rw [if_neg z, if_neg fun u => z (Option.some.inj u)]
    rfl
theorem nats_inj {a b : List Nat} : VacoloNeutral.nats a = VacoloNeutral.nats b ↔ a = b := by
  constructor
  · intro h
    unfold VacoloNeutral.nats at h
    exact (List.map_inj_right fun x y e => Int.ofNat.inj e).mp h
  · rintro rfl
    rfl
theorem sc_H_why : FnScope ["self", "text", "value", "number", "path", "told"] ["self", "text"] (defScope s_H_why) := ⟨rfl, rfl, rfl, by decide +kernel, rfl, by decide +kernel, by decide +kernel⟩
theorem ok_H_why (T : Txt K mg) (TB : TabB base mg (He.cT K dStr).1 (He.cT K dStr).2) : DefOk P w K mg base CX0 51 (He.ma K (CRo K) "why") ["self", "text"] (spTxt K .why) := by
  obtain ⟨fd, F⟩ := dT T defsC (.inr (.inr rfl)) 5 rfl
  refine ⟨fd, ?_, bind2 F fun _ _ _ _ _ _ _ _ => rfl, F.kp⟩
  have nd := sc_H_why.nd
  have mlen := T.free "len" (by decide +kernel)
  obtain ⟨c1, c2, c3, c4, c5⟩ := T.exc "Fault" (by decide +kernel)
  obtain ⟨fdS, FS, bS, kS⟩ := (ok_row_read (P := P) (w := w) (base := base) T TB).ex
  refine F.ok sc_H_why (fun vs H Q E h => by obtain ⟨p, a, b, t, txt, rs, rfl, _⟩ := h; rfl) (fun cdv A outer s H vs Q E hr h => ⟨_,
    (pss_cons (ps_try_only (x := "Fault") (c := .ref (CF K)) rfl rfl ⟨rfl, by decide, .inl (T.glo "Fault" (by decide +kernel))⟩ takes0
        (fun W pn xe tk po => (pss_one (ps_set (i := 2) nd rfl (.inl rfl) (pe_callS (E := WE W) FS hr rfl (T.glo "row_read" (by decide +kernel)) kS bS (fun σ pins H1 s1 e s' I c => passAt tk σ pins H1 s1 e s' I c) (pa_cons (pv 1) pa_nil)))))
        (fun a oe cls d pn hz hd => (pss_one (ps_ret (pe_lst (pa_cons (pgi (T.int ("FAULTY", -1) (by decide +kernel))) pa_nil))))))
    (pss_cons (ps_asg (pmeth (ok_H_clash_with T) (pv 0) (tclH T) (tmH T "clash_with" (by decide +kernel)) (hr.mono (by omega)) pass0 (pa_cons (pv 2) pa_nil)) (pg_tup rfl (pgs_cons (pg_name (i := 3) nd rfl (Or.inl rfl)) (pgs_cons (pg_name (i := 4) nd rfl (Or.inl rfl)) pgs_nil))))
    (pss_cons (ps_set (i := 5) nd rfl (.inl rfl) (pcall (ok_path_told T) (hr.mono (by omega)) (T.glo "path_told" (by decide +kernel)) pass0 (pa_cons (pv 4) pa_nil)))
    (pss_one (ps_ret (pe_op op_cat (pe_lst (pa_cons (pv 3) (pa_cons (pe_callB (r := fun xs H Q => ∃ a ys, xs = [V.ref a] ∧ (SqL K H a ys ∨ SqT K H a ys) ∧ Q (.int ys.length) H) call_len_seq rfl mlen PySem.boot_len (pa_cons (pv 5) pa_nil)) pa_nil))) (pv 5))))))), ?_⟩)
  obtain ⟨p, a, b, t, txt, rs, rfl, h, tb, hT, nta, ntb, q⟩ := h
  obtain ⟨dx, hp⟩ := h.ins
  have hsz : sizeLine = 16777216 := rfl
  refine ⟨_, rfl, t, txt, rfl, SqL.of hT, tb, fun v hv H1 x s1 t1 rx0 => ?_, fun f hf d H1 hd hd1 s1 t1 => ⟨true, c5, fun _ e he => ?_, fun z => by cases z⟩⟩
  rotate_left
  · refine ⟨(by show 1 ≤ sizeLine; decide), fun l hl => ?_⟩
    have s2 := same_new (H := H1) (o := .lst [.int (-1)]) hl
    exact q.stay h tb (why_bad hf).1 (why_bad hf).2 (s1.trans (Same.t s2)) (Tb.same t1 s2) (SmT.fresh s1 t1 hl) upd_same
  obtain ⟨r, rfl, hrow, hshow⟩ := row_taken hv
  have h1 := h.smt s1 tb
  obtain ⟨rx, hb1, hR1, hA, hlen⟩ := h1.more hrow
  have hp1 := s1 _ _ hp (tb.ne hp (by intro _ z; cases z))
  have hpath : (clashOf (rs ++ [r])).2.length ≤ 100 ∧ ∀ n ∈ (clashOf (rs ++ [r])).2, n.length ≤ 100 := by
    unfold clashOf
    cases e : schemaOf ((rs ++ [r]).map Loose.record) with
    | ok fs => exact ⟨by simp, by simp⟩
    | error c =>
      refine clash_path e fun r' hr' => ?_
      rcases List.mem_append.mp hr' with z | z
      · exact h.ok.row _ z
      · rw [List.mem_singleton.mp z]
        exact hrow
  refine ⟨_, rfl, p, dx, _, rfl, hp1, hF_no (by decide +kernel) (by decide +kernel), _, rfl, p, dx, a, b, x, rx, rs, r, rfl, hp1, hb1, hR1, rx0.of_nw, hA, hlen, fun H2 tt l ys s2 htt hl2 hN => ?_⟩
  have hd := dots_len (clashOf (rs ++ [r])).2 hpath.2
  refine ⟨tt, _, rfl, SqT.of htt, rfl, _, _, rfl, _, _, rfl, rfl, _, rfl, l, ys, _, rfl, SqL.of hl2, hN, hpath.1, hpath.2, fun H3 m s3 hm0 hm => ?_⟩
  refine ⟨_, rfl, _, rfl, m, _, rfl, .inl (SqL.of hm), (by show 2 ≤ sizeLine; decide), fun l4 hl4 => ?_⟩
  have s4 := same_new (H := H3) (o := .lst [.int ((clashOf (rs ++ [r])).1 : Nat), .int ((vT (joinDots (clashOf (rs ++ [r])).2)).length : Nat)]) hl4
  refine ⟨_, rfl, l4, m, _, _, rfl, rfl, upd_same, s4 _ _ hm, ?_, fun l5 hl5 => ?_⟩
  · rw [List.length_map]
    simp only [List.length_cons, List.length_nil]
    omega
  have s5 := same_new (H := upd H3 l4 (.lst [.int ((clashOf (rs ++ [r])).1 : Nat), .int ((vT (joinDots (clashOf (rs ++ [r])).2)).length : Nat)])) (o := .lst ([.int ((clashOf (rs ++ [r])).1 : Nat), .int ((vT (joinDots (clashOf (rs ++ [r])).2)).length : Nat)] ++ vT (joinDots (clashOf (rs ++ [r])).2))) hl5
  have sA := Same.trans s2 (Same.trans s3 (Same.trans s4 s5))
  have hdu := why_due (rs := rs) hv
  refine q.stay h tb hdu.1 hdu.2 (s1.trans (Same.t sA)) (Tb.same t1 sA) (SmT.fresh s1 t1 (Same.fresh (Same.trans s2 (Same.trans s3 s4)) hl5)) ?_
  rw [upd_same, List.length_map, List.map_cons, ← sized_v]
  rfl
theorem sc_H_alike : FnScope ["self", "text", "value", "number"] ["self", "text"] (defScope s_H_alike) := ⟨rfl, rfl, rfl, by decide +kernel, rfl, by decide +kernel, by decide +kernel⟩
theorem ok_H_alike (T : Txt K mg) (TB : TabB base mg (He.cT K dStr).1 (He.cT K dStr).2) : DefOk P w K mg base CX0 51 (He.ma K (CRo K) "alike") ["self", "text"] (spTxt K .alike) := by
  obtain ⟨fd, F⟩ := dT T defsC (.inr (.inr rfl)) 8 rfl
  refine ⟨fd, ?_, bind2 F fun _ _ _ _ _ _ _ _ => rfl, F.kp⟩
  have nd := sc_H_alike.nd
  have mint := T.free "int" (by decide +kernel)
  obtain ⟨c1, c2, c3, c4, c5⟩ := T.exc "Fault" (by decide +kernel)
  obtain ⟨fdS, FS, bS, kS⟩ := (ok_row_read (P := P) (w := w) (base := base) T TB).ex
  refine F.ok sc_H_alike (fun vs H Q E h => by obtain ⟨p, a, b, t, txt, rs, rfl, _⟩ := h; rfl) (fun cdv A outer s H vs Q E hr h => ⟨_,
    (pss_cons (ps_try_only (x := "Fault") (c := .ref (CF K)) rfl rfl ⟨rfl, by decide, .inl (T.glo "Fault" (by decide +kernel))⟩ takes0
        (fun W pn xe tk po => (pss_one (ps_set (i := 2) nd rfl (.inl rfl) (pe_callS (E := WE W) FS hr rfl (T.glo "row_read" (by decide +kernel)) kS bS (fun σ pins H1 s1 e s' I c => passAt tk σ pins H1 s1 e s' I c) (pa_cons (pv 1) pa_nil)))))
        (fun a oe cls d pn hz hd => (pss_one (ps_ret (pe_lst (pa_cons (pgi (T.int ("FAULTY", -1) (by decide +kernel))) pa_nil))))))
    (pss_cons (ps_if (pt_cmpR (op_eqNil hr.units0) (pe_fld (pv 0) rfl) (pe_lst pa_nil) (nomark _)) (pss_one (ps_ret (pe_lst (pa_cons (pgi (T.int ("NO_ROWS", -7) (by decide +kernel))) pa_nil)))) pss_nil)
    (pss_cons (ps_set (i := 3) nd rfl (.inl rfl) (pe_ix ix_tup (pmeth (ok_H_clash_with T) (pv 0) (tclH T) (tmH T "clash_with" (by decide +kernel)) (hr.mono (by omega)) pass0 (pa_cons (pv 2) pa_nil)) pe_int (fun _ _ => rfl)))
    (pss_cons (ps_if (pt_cmpR op_gt (pv 3) pe_int (nomark _)) (pss_one (ps_ret (pe_lst (pa_cons (pe_op op_sub (pgi (T.int ("CLASHES", -10) (by decide +kernel))) (pv 3)) pa_nil)))) pss_nil)
    (pss_one (ps_ret (pe_lst (pa_cons (pe_callTy call_int1 rfl mint (by decide +kernel) (pa_cons (pe_cmpR (op_eqI hr.units0) (pcall (E := fun _ _ _ => False) (ok_schema_of T) (hr.mono (by omega)) (T.glo "schema_of" (by decide +kernel)) passNo (pa_cons (pe_op op_cat (pe_fld (pv 0) rfl) (pe_lst (pa_cons (pv 2) pa_nil))) pa_nil)) (pcall (E := fun _ _ _ => False) (ok_schema_of T) (hr.mono (by omega)) (T.glo "schema_of" (by decide +kernel)) passNo (pa_cons (pe_fld (pv 0) rfl) pa_nil)) (nomark _)) pa_nil)) pa_nil)))))))), ?_⟩)
  obtain ⟨p, a, b, t, txt, rs, rfl, h, tb, hT, nta, ntb, q⟩ := h
  obtain ⟨dx, hp⟩ := h.ins
  obtain ⟨tx, ha, ht⟩ := h.txt
  have hsz : sizeLine = 16777216 := rfl
  refine ⟨_, rfl, t, txt, rfl, SqL.of hT, tb, fun v hv H1 x s1 t1 rx0 => ?_, fun f hf d H1 hd hd1 s1 t1 => ⟨true, c5, fun _ e he => ?_, fun z => by cases z⟩⟩
  rotate_left
  · refine ⟨(by show 1 ≤ sizeLine; decide), fun l hl => ?_⟩
    have s2 := same_new (H := H1) (o := .lst [.int (-1)]) hl
    exact q.stay h tb (alike_bad hf).1 (alike_bad hf).2 (s1.trans (Same.t s2)) (Tb.same t1 s2) (SmT.fresh s1 t1 hl) upd_same
  obtain ⟨r, rfl, hrow, hshow⟩ := row_taken hv
  have h1 := h.smt s1 tb
  obtain ⟨rx, hb1, hR1, hA, hlen⟩ := h1.more hrow
  have hp1 := s1 _ _ hp (tb.ne hp (by intro _ z; cases z))
  have ha1 := s1 _ _ ha (tb.ne ha (by intro _ z; cases z))
  have htl := ht.len
  have hfew := h.ok.few
  refine ⟨_, rfl, p, _, dx, _, _, rfl, hp1, tclH T, tnt2 T, hF_txt, by show 0 ≤ sizeLine; decide, fun l0 hl0 => ?_⟩
  have s0 := same_new (H := H1) (o := .lst []) hl0
  refine ⟨a, l0, tx, rfl, rfl, SqL.of (s0 _ _ ha1), SqL.of upd_same, _, rfl, ifb (fun c => ?_) fun c => ?_⟩
  · have e : rs = [] := by
      have : tx = [] := List.isEmpty_iff.mp c
      rw [this] at htl
      exact List.length_eq_zero_iff.mp htl.symm
    subst e
    refine ⟨(by show 1 ≤ sizeLine; decide), fun l hl => ?_⟩
    have s2 := same_new (H := upd H1 l0 (.lst [])) (o := .lst [.int (-7)]) hl
    have s3 := Same.trans s0 s2
    exact q.stay h tb (alike_none hv).1 (alike_none hv).2 (s1.trans (Same.t s3)) (Tb.same t1 s3) (SmT.fresh s1 t1 (Same.fresh s0 hl)) upd_same
  have hne : rs ≠ [] := fun z => by
    rw [z] at htl
    rw [List.length_eq_zero_iff.mp htl] at c
    cases c
  generalize upd H1 l0 (.lst []) = Hx at *
  refine ⟨_, rfl, p, dx, _, rfl, s0 _ _ hp1, hF_no (by decide +kernel) (by decide +kernel), _, rfl, p, dx, a, b, x, rx, rs, r, rfl, s0 _ _ hp1, s0 _ _ hb1, hR1.mono (Same.kp s0), rx0.of_nw.mono (Same.kp s0), hA, hlen, fun H2 tt l ys s2' htt hl2 hN => ?_⟩
  have s2 := Same.trans s0 s2'
  refine ⟨tt, _, 0, _, rfl, rfl, SqT.of htt, atI_nat (j := 0) rfl, _, rfl, _, _, rfl, rfl, _, rfl, ifb (fun c2 => ?_) fun c2 => ?_⟩
  · have c2' : (((clashOf (rs ++ [r])).1 : Nat) : Int) > 0 := of_decide_eq_true c2
    have hcl : ∃ c, schemaOf ((rs ++ [r]).map Loose.record) = .error c ∧ (clashOf (rs ++ [r])).1 = c.number := by
      unfold clashOf at c2' ⊢
      cases e : schemaOf ((rs ++ [r]).map Loose.record) with
      | ok fs =>
        rw [e] at c2'
        exact absurd c2' (by simp)
      | error c => exact ⟨c, rfl, rfl⟩
    obtain ⟨c, hc, hn⟩ := hcl
    refine ⟨_, rfl, _, _, rfl, rfl, (by show 1 ≤ sizeLine; decide), fun l4 hl4 => ?_⟩
    rw [hn] at *
    have s3 := same_new (H := H2) (o := .lst [.int (-10 - (c.number : Int))]) hl4
    have hd := alike_clash hv hne hc
    exact q.stay h tb hd.1 hd.2 (s1.trans (Same.t (Same.trans s2 s3))) (Tb.same t1 (Same.trans s2 s3)) (SmT.fresh s1 t1 (Same.fresh s2 hl4)) upd_same
  have c2' : ¬ (((clashOf (rs ++ [r])).1 : Nat) : Int) > 0 := of_decide_eq_false c2
  have hok : ∃ fs, schemaOf ((rs ++ [r]).map Loose.record) = .ok fs := by
    unfold clashOf at c2'
    cases e : schemaOf ((rs ++ [r]).map Loose.record) with
    | ok fs => exact ⟨fs, rfl⟩
    | error c =>
      rw [e] at c2'
      have := clash_pos e
      exact absurd (show ((c.number : Nat) : Int) > 0 by omega) c2'
  obtain ⟨fs, hfs⟩ := hok
  obtain ⟨fs0, hfs0⟩ := h.ok.go.resolve_left hne
  have hp2 := s2 _ _ hp1
  have hb2 := s2 _ _ hb1
  have hA0 := ask_rows hne (by omega) h.ok.row
  refine ⟨_, rfl, p, _, dx, _, _, rfl, hp2, tclH T, tnr T, hF_rec, _, rfl, (by show 1 ≤ sizeLine; decide), fun l3 hl3 => ?_⟩
  have s3 := same_new (H := H2) (o := .lst [x]) hl3
  refine ⟨b, l3, rx, [x], rfl, rfl, s3 _ _ hb2, upd_same, ?_, fun l4 hl4 => ?_⟩
  · simp only [List.length_cons, List.length_nil]
    omega
  have s4 := same_new (H := upd H2 l3 (.lst [x])) (o := .lst (rx ++ [x])) hl4
  have s24 := Same.trans s2 (Same.trans s3 s4)
  refine ⟨l4, rx ++ [x], rs ++ [r], rfl, SqL.of upd_same, ?_, hA, fun fs' e' H5 m5 s5 n5 h5 => ?_, fun c e' => by rw [hfs] at e'; cases e'⟩
  · rw [← map_snoc]
    exact (hR1.mono (Same.kp s24)).app (rx0.of_nw.mono (Same.kp s24))
  rw [hfs] at e'
  cases e'
  have s25 := Same.trans s24 s5
  refine ⟨_, rfl, p, _, dx, _, _, rfl, s25 _ _ hp1, tclH T, tnr T, hF_rec, b, rx, rs, rfl, SqL.of (s25 _ _ hb1), hR1.mono (Same.kp s25), hA0, fun fs' e' H6 m6 s6 n6 h6 => ?_, fun c e' => by rw [hfs0] at e'; cases e'⟩
  rw [hfs0] at e'
  cases e'
  rw [vT_nats] at h5 h6
  refine ⟨m5, m6, _, _, rfl, rfl, SqL.of (s6 _ _ h5), SqL.of h6, .inr ⟨_, rfl, (by show 1 ≤ sizeLine; decide), fun l7 hl7 => ?_⟩⟩
  have s7 := same_new (H := H6) (o := .lst [.int (if decide (VacoloNeutral.nats (showSchema fs) = VacoloNeutral.nats (showSchema fs0)) = true then 1 else 0)]) hl7
  have sA := Same.trans s25 (Same.trans s6 s7)
  have hdu := alike_ok hv hne hfs hfs0
  refine q.stay h tb hdu.1 hdu.2 (s1.trans (Same.t sA)) (Tb.same t1 sA) (SmT.fresh s1 t1 (Same.fresh (Same.trans s25 s6) hl7)) ?_
  rw [upd_same]
  congr 3
  by_cases z : showSchema fs = showSchema fs0
  · rw [if_pos z, decide_eq_true (nats_inj.mpr z)]
    rfl
  · rw [if_neg z, decide_eq_false fun u => z (nats_inj.mp u)]
    rfl
end SF
end -- S21

section -- S22
set_option Elab.async false
set_option linter.all false
set_option maxRecDepth 100000
set_option maxHeartbeats 8000000
/-! # S22: is_needed, needed -/
namespace SF
open PySem PySem.Spec PyProof.Rows L2
open LamX (CodeO TabS ExtN TabB)
open Vacolo (Loose found schemaOf readRow showRow openKind withText textOf neededOf)
open Vacola (showSchema joinDots)
variable {P : Program} {w : World} {K : PySem.W.Frag} {mg : Str → Option Value} {base : Heap}
def isNeed (rs : List Rec) (k : Nat) : Bool := textOf (Vacolo.without (rs.map Loose.record) k) != textOf (rs.map Loose.record)
def spIsN (K : PySem.W.Frag) : Sp := fun vs H Q _ => ∃ (p a b m : Addr) (k : Nat) (rs : List Rec) (fs : Vacola.Fields), vs = [.ref p, .int (k : Int), .ref m] ∧ Held K H p a b rs ∧ SqL K H m (vT (showSchema fs)) ∧ schemaOf (rs.map Loose.record) = .ok fs ∧ k < rs.length ∧ ∀ H', Same H H' → Q (.bl (isNeed rs k)) H'
theorem without_rec (rs : List Rec) (k : Nat) : Vacolo.without (rs.map Loose.record) k = (rs.take k ++ rs.drop (k + 1)).map Loose.record := by
  unfold Vacolo.without
  rw [List.eraseIdx_eq_take_drop_succ, List.map_append, List.map_take, List.map_drop]
theorem sc_H_is_needed : FnScope ["self", "number", "schema", "rest"] ["self", "number", "schema"] (defScope s_H_is_needed) := ⟨rfl, rfl, rfl, by decide +kernel, rfl, by decide +kernel, by decide +kernel⟩
theorem ok_H_is_needed (T : Txt K mg) : DefOk P w K mg base CX0 31 (He.ma K (CRo K) "is_needed") ["self", "number", "schema"] (spIsN K) := by
  obtain ⟨fd, F⟩ := dT T defsC (.inr (.inr rfl)) 10 rfl
  refine ⟨fd, ?_, bind3 F fun _ _ _ _ _ _ _ _ _ => rfl, F.kp⟩
  have nd := sc_H_is_needed.nd
  refine F.ok sc_H_is_needed (fun vs H Q E h => by obtain ⟨p, a, b, m, k, rs, fs, rfl, _⟩ := h; rfl) (fun cdv A outer s H vs Q E hr h => ⟨_,
    (pss_cons (ps_set (i := 3) nd rfl (.inl rfl) (pe_op op_cat (pe_slice sl_list (pe_fld (pv 0) rfl) po_none (po_some (pv 1))) (pe_slice sl_list (pe_fld (pv 0) rfl) (po_some (pe_op op_add (pv 1) pe_int)) po_none)))
    (pss_one (ps_ret (pe_or (pe_cmpR (op_eqNil hr.units0) (pv 3) (pe_lst pa_nil) (nomark _)) (pe_one (pe_cmpR (op_neI hr.units0) (pcall (E := fun _ _ _ => False) (ok_schema_of T) hr (T.glo "schema_of" (by decide +kernel)) passNo (pa_cons (pv 3) pa_nil)) (pv 2) (nomark _))))))), ?_⟩)
  obtain ⟨p, a, b, m, k, rs, fs, rfl, h, hm, hfs, hk, q⟩ := h
  obtain ⟨dx, hp⟩ := h.ins
  obtain ⟨rx, hb, hR⟩ := h.rcs
  have hsz : sizeLine = 16777216 := rfl
  have hrl : rx.length = rs.length := by rw [hR.len, List.length_map]
  have hfew := h.ok.few
  have e3 : cutV rx none (some (k : Int)) = rx.take k := cut_lo (by omega)
  have e4 : cutV rx (some ((k : Int) + 1)) none = rx.drop (k + 1) := cut_hi (n := k + 1) (by omega)
  refine ⟨_, rfl, p, _, dx, _, _, rfl, hp, tclH T, tnr T, hF_rec, _, rfl, _, rfl, b, rx, rfl, SqL.of hb, fun l3 hl3 => ?_⟩
  rw [e3]
  have s4 := same_new (H := H) (o := .lst (rx.take k)) hl3
  refine ⟨_, rfl, p, _, dx, _, _, rfl, s4 _ _ hp, tclH T, tnr T, hF_rec, _, rfl, _, _, rfl, rfl, _, rfl, b, rx, rfl, SqL.of (s4 _ _ hb), fun l4 hl4 => ?_⟩
  rw [e4]
  have s5 := same_new (H := upd H l3 (.lst (rx.take k))) (o := .lst (rx.drop (k + 1))) hl4
  refine ⟨l3, l4, _, _, rfl, rfl, s5 _ _ upd_same, upd_same, ?_, fun y hy => ?_⟩
  · rw [List.length_take, List.length_drop]
    omega
  have s6 := same_new (H := upd (upd H l3 (.lst (rx.take k))) l4 (.lst (rx.drop (k + 1)))) (o := .lst (rx.take k ++ rx.drop (k + 1))) hy
  have sy := Same.trans s4 (Same.trans s5 s6)
  have hyy : upd (upd (upd H l3 (.lst (rx.take k))) l4 (.lst (rx.drop (k + 1)))) y (.lst (rx.take k ++ rx.drop (k + 1))) y = some (.lst (rx.take k ++ rx.drop (k + 1))) := upd_same
  generalize upd (upd (upd H l3 (.lst (rx.take k))) l4 (.lst (rx.drop (k + 1)))) y (.lst (rx.take k ++ rx.drop (k + 1))) = Hc at *
  refine ⟨_, rfl, (by show 0 ≤ sizeLine; decide), fun l0 hl0 => ?_⟩
  have s0 := same_new (H := Hc) (o := .lst []) hl0
  have hR2 : RLs H (rx.take k ++ rx.drop (k + 1)) ((rs.take k ++ rs.drop (k + 1)).map Loose.record) := by
    rw [List.map_append, List.map_take, List.map_drop]
    exact hR.of_del.cut k
  have hl2 := hR2.len
  rw [List.length_map] at hl2
  refine ⟨y, l0, _, rfl, rfl, SqL.of (s0 _ _ hyy), SqL.of upd_same, _, rfl, ifb (fun c => ?_) fun c => ?_⟩
  · have e : rs.take k ++ rs.drop (k + 1) = [] := by
      rw [List.isEmpty_iff.mp c] at hl2
      exact List.length_eq_zero_iff.mp hl2.symm
    refine qb (q _ (Same.trans sy s0)) ?_
    unfold isNeed
    rw [without_rec, e, textOf_ok (fun z => by rw [z] at hk; simp at hk) hfs]
    rfl
  · have hne : rs.take k ++ rs.drop (k + 1) ≠ [] := fun z => by
      rw [z] at hl2
      rw [List.length_eq_zero_iff.mp hl2] at c
      cases c
    have hle : (rs.take k ++ rs.drop (k + 1)).length ≤ rs.length := cut_len
    obtain ⟨fs', hfs'⟩ := schema_less hfs (by omega) h.ok.row hne (fun r hr => cut_mem hr) (by omega)
    have hA := ask_rows hne (by omega) fun r hr => h.ok.row r (cut_mem hr)
    refine ⟨_, rfl, y, _, _, rfl, SqL.of (s0 _ _ hyy), hR2.mono (Same.kp (Same.trans sy s0)), hA, fun fs2 e' H5 m5 s5' n5 h5 => ?_, fun c e' => by rw [hfs'] at e'; cases e'⟩
    rw [hfs'] at e'
    cases e'
    have sA := Same.trans sy (Same.trans s0 s5')
    have hm5 := sA.seq hm
    rw [vT_nats] at h5 hm5
    refine ⟨_, rfl, m5, m, _, _, rfl, rfl, SqL.of h5, hm5, qb (q _ sA) ?_⟩
    unfold isNeed
    rw [without_rec, textOf_ok hne hfs', textOf_ok (fun z => by rw [z] at hk; simp at hk) hfs]
    by_cases z : showSchema fs' = showSchema fs
    · rw [decide_eq_true (nats_inj.mpr z), z]
      simp
    · rw [decide_eq_false fun u => z (nats_inj.mp u)]
      simpa using z
abbrev ndN : List Str := ["self", "found", "schema", "number"]
theorem sc_H_needed : FnScope ndN ["self"] (defScope s_H_needed) := ⟨rfl, rfl, rfl, by decide +kernel, rfl, by decide +kernel, by decide +kernel⟩
theorem need_due {rs : List Rec} : Due rs .needed (VacoloNeutral.sized ((List.range rs.length).filter (isNeed rs))) rs := by
  refine ⟨rfl, ?_⟩
  show VacoloNeutral.sized (neededOf (rs.map Loose.record)) = _
  unfold neededOf
  rw [List.length_map]
  rfl
theorem range_snoc (p : Nat → Bool) (i : Nat) : (List.range (i + 1)).filter p = (List.range i).filter p ++ if p i = true then [i] else [] := by
  rw [List.range_succ, List.filter_append]
  cases h : p i <;> simp [h]
theorem ok_H_needed (T : Txt K mg) : DefOk P w K mg base CX0 32 (He.ma K (CRo K) "needed") ["self"] (spNo K .needed) := by
  obtain ⟨fd, F⟩ := dT T defsC (.inr (.inr rfl)) 11 rfl
  refine ⟨fd, ?_, bind1 F fun _ _ _ _ _ _ _ => rfl, F.kp⟩
  have nd := sc_H_needed.nd
  have mlen := T.free "len" (by decide +kernel)
  have mrng := T.free "range" (by decide +kernel)
  refine F.ok sc_H_needed (fun vs H Q E h => by obtain ⟨p, a, b, rs, rfl, _⟩ := h; rfl) (fun cdv A outer s H vs Q E hr h => ⟨_,
    (pss_cons (ps_set (i := 1) nd rfl (.inl rfl) (pe_lst pa_nil))
    (pss_cons (ps_if (pt_cmpR (op_neNil hr.units0) (pe_fld (pv 0) rfl) (pe_lst pa_nil) (nomark _))
      (pss_cons (ps_set (i := 2) nd rfl (.inr rfl) (pcall (E := fun _ _ _ => False) (ok_schema_of T) (hr.mono (by omega)) (T.glo "schema_of" (by decide +kernel)) passNo (pa_cons (pe_fld (pv 0) rfl) pa_nil)))
    (pss_one (ps_setLc (i := 1) (own := [("number", 3)]) (g := gName 3) (te := tVar 3) (tt := tB (tMeth (CRo K) "is_needed" (spIsN K) [] (fun _ _ _ => False) (tVar 0) (tCons (tVar 3) (tCons (tVar 2) tNil)))) rfl nd rfl rfl (sw_true rfl rfl rfl (by decide +kernel))
          (pi_range1 rfl mrng (pa_cons (pe_callB (r := fun xs H Q => ∃ a ys, xs = [V.ref a] ∧ (SqL K H a ys ∨ SqT K H a ys) ∧ Q (.int ys.length) H) call_len_seq rfl mlen PySem.boot_len (pa_cons (pe_fld (pv 0) rfl) pa_nil)) pa_nil)) (blkOk_by (N := ndN) (sc := defScope s_H_needed) (by decide +kernel))
          (fun _ _ _ _ _ => pg_name (i := 3) nd rfl (Or.inl rfl))
          (fun _ _ _ _ _ => pts_one (pt_val (pmeth (ok_H_is_needed T) (pv 0) (tclH T) (tmH T "is_needed" (by decide +kernel)) hr pass0 (pa_cons (pv 3) (pa_cons (pv 2) pa_nil)))))
          (fun _ _ _ _ _ => pv 3)))) pss_nil)
    (pss_one (ps_ret (pe_op op_cat (pe_lst (pa_cons (pe_callB (r := fun xs H Q => ∃ a ys, xs = [V.ref a] ∧ (SqL K H a ys ∨ SqT K H a ys) ∧ Q (.int ys.length) H) call_len_seq rfl mlen PySem.boot_len (pa_cons (pv 1) pa_nil)) pa_nil)) (pv 1)))))), ?_⟩)
  obtain ⟨p, a, b, rs, rfl, h, tb, q⟩ := h
  obtain ⟨dx, hp⟩ := h.ins
  obtain ⟨rx, hb, hR⟩ := h.rcs
  have hsz : sizeLine = 16777216 := rfl
  have hfew := h.ok.few
  have hrl : rx.length = rs.length := by rw [hR.len, List.length_map]
  -- the end
  have fin : ∀ Hz D, Same H Hz → Hz D = some (.lst (vT ((List.range rs.length).filter (isNeed rs)))) → ∀ l, Hz l = none → ∀ l2, upd Hz l (.lst [V.int ((vT ((List.range rs.length).filter (isNeed rs))).length : Nat)]) l2 = none →
      Q (.ref l2) (upd (upd Hz l (.lst [V.int ((vT ((List.range rs.length).filter (isNeed rs))).length : Nat)])) l2 (.lst ([V.int ((vT ((List.range rs.length).filter (isNeed rs))).length : Nat)] ++ vT ((List.range rs.length).filter (isNeed rs))))) := fun Hz D sz hD l hl l2 hl2 => by
    have s1 := same_new (H := Hz) (o := .lst [V.int ((vT ((List.range rs.length).filter (isNeed rs))).length : Nat)]) hl
    have s2 := same_new (H := upd Hz l (.lst [V.int ((vT ((List.range rs.length).filter (isNeed rs))).length : Nat)])) (o := .lst ([V.int ((vT ((List.range rs.length).filter (isNeed rs))).length : Nat)] ++ vT ((List.range rs.length).filter (isNeed rs)))) hl2
    have sA := Same.trans sz (Same.trans s1 s2)
    refine q.stay h tb need_due.1 need_due.2 (Same.t sA) (tb.same sA) (Same.fresh (Same.trans sz s1) hl2) ?_
    rw [upd_same, ← sized_v, List.length_map]
  have hnl : ((List.range rs.length).filter (isNeed rs)).length ≤ 100 := Nat.le_trans (List.length_filter_le _ _) (by rw [List.length_range]; exact hfew)
  refine ⟨(by show 0 ≤ sizeLine; decide), fun l1 hl1 => ?_⟩
  have s1 := same_new (H := H) (o := .lst []) hl1
  refine ⟨_, rfl, p, _, dx, _, _, rfl, s1 _ _ hp, tclH T, tnr T, hF_rec, (by show 0 ≤ sizeLine; decide), fun l2 hl2 => ?_⟩
  have s2 := same_new (H := upd H l1 (.lst [])) (o := .lst []) hl2
  have s12 := Same.trans s1 s2
  refine ⟨b, l2, rx, rfl, rfl, SqL.of (s12 _ _ hb), SqL.of upd_same, _, rfl, ifb (fun c => ?_) fun c => ?_⟩
  · have hne : rs ≠ [] := fun z => by
      rw [z] at hrl
      rw [List.length_eq_zero_iff.mp hrl] at c
      cases c
    obtain ⟨fs, hfs⟩ := h.ok.go.resolve_left hne
    have hA := ask_rows hne (by omega) h.ok.row
    refine ⟨_, rfl, p, _, dx, _, _, rfl, s12 _ _ hp, tclH T, tnr T, hF_rec, b, rx, rs, rfl, SqL.of (s12 _ _ hb), hR.of_del.mono (Same.kp s12), hA, fun fs' e' H3 m s3 n3 h3 => ?_, fun c e' => by rw [hfs] at e'; cases e'⟩
    rw [hfs] at e'
    cases e'
    have s13 := Same.trans s12 s3
    refine ⟨_, rfl, p, _, dx, _, _, rfl, s13 _ _ hp, tclH T, tnr T, hF_rec, b, rx, rfl, .inl (SqL.of (s13 _ _ hb)), _, rfl, by omega, by omega, fun D hD => ?_⟩
    have en : ((rx.length : Nat) : Int).toNat = rs.length := by omega
    rw [en]
    refine lc_range (fun i Hc => Hc D = some (.lst (vT ((List.range i).filter (isNeed rs)))) ∧ Same H3 Hc) ⟨upd_same, same_new hD⟩ ?_ ?_
    · rintro i Hc hi ⟨hDc, k3⟩
      have kk := Same.trans s13 k3
      refine ⟨rfl, ?_⟩
      refine ⟨_, rfl, p, dx, _, rfl, kk _ _ hp, hF_no (by decide +kernel) (by decide +kernel), _, rfl, _, rfl, p, a, b, m, i, rs, fs, ?_, h.same kk, SqL.of (k3 _ _ h3), hfs, hi, fun H5 s5 => ⟨_, rfl, ?_⟩⟩
      · show [V.ref p, .int (0 + (i : Int)), .ref m] = [V.ref p, .int (i : Int), .ref m]
        rw [Int.zero_add]
      have hD5 := s5 _ _ hDc
      refine ifb (fun z => ?_) fun z => ?_
      · refine ⟨_, rfl, _, hD5, ?_, ?_, fun c o e => ?_⟩
        · rw [List.length_map]
          have := List.length_filter_le (isNeed rs) (List.range i)
          rw [List.length_range] at this
          omega
        · rw [upd_same, range_snoc, if_pos z, vT_app, Int.zero_add]
          rfl
        · rw [upd_ne (ne_of_none e hD)]
          exact s5 _ _ (k3 _ _ e)
      · refine ⟨?_, Same.trans k3 s5⟩
        rw [range_snoc, if_neg (by rw [z]; decide), List.append_nil]
        exact hD5
    · rintro Hc ⟨hDc, k3⟩
      refine ⟨_, rfl, D, _, rfl, .inl (SqL.of hDc), (by show 1 ≤ sizeLine; decide), fun l5 hl5 => ?_⟩
      have s5 := same_new (H := Hc) (o := .lst [V.int ((vT ((List.range rs.length).filter (isNeed rs))).length : Nat)]) hl5
      refine ⟨_, rfl, l5, D, _, _, rfl, rfl, upd_same, s5 _ _ hDc, ?_, fun l6 hl6 => fin Hc D (Same.trans s13 k3) hDc l5 hl5 l6 hl6⟩
      rw [List.length_map]
      simp only [List.length_cons, List.length_nil]
      omega
  · have e : rs = [] := by
      cases rx with
      | nil => exact List.length_eq_zero_iff.mp hrl.symm
      | cons a l => cases c
    subst e
    have h1 : upd (upd H l1 (.lst [])) l2 (.lst []) l1 = some (.lst []) := s2 _ _ upd_same
    refine ⟨_, rfl, l1, _, rfl, .inl (SqL.of h1), (by show 1 ≤ sizeLine; decide), fun l5 hl5 => ?_⟩
    have s5 := same_new (H := upd (upd H l1 (.lst [])) l2 (.lst [])) (o := .lst [V.int 0]) hl5
    exact ⟨_, rfl, l5, l1, _, _, rfl, rfl, upd_same, s5 _ _ h1, (by show 1 ≤ sizeLine; decide), fun l6 hl6 => fin _ l1 s12 h1 l5 hl5 l6 hl6⟩
end SF
end -- S22

section -- S23
set_option Elab.async false
set_option linter.all false
set_option maxRecDepth 100000
set_option maxHeartbeats 8000000
/-! # S23: Rows made; a call answered -/
namespace SF
open PySem PySem.Spec PyProof.Rows L2
open LamX (CodeO TabS ExtN TabB)
open Vacolo (Loose found schemaOf readRow showRow openKind withText textOf neededOf)
open Vacola (showSchema joinDots)
variable {P : Program} {w : World} {K : PySem.W.Frag} {mg : Str → Option Value} {base : Heap}
/-! ### __init__ -/
def spHInit (K : PySem.W.Frag) : Sp := fun vs H Q _ => ∃ (p dx : Addr), vs = [.ref p] ∧ H p = some (.ins (CRo K) dx []) ∧ ∀ H' a b, H' p = some (.ins (CRo K) dx (hF a b)) → H' a = some (.lst []) → H' b = some (.lst []) → H a = none → H b = none → a ≠ b → Chg p H H' → Q .non H'
theorem sc_H_init : FnScope ["self"] ["self"] (defScope s_H_init) := ⟨rfl, rfl, rfl, by decide +kernel, rfl, by decide +kernel, by decide +kernel⟩
theorem ok_H_init (T : Txt K mg) : DefOk P w K mg base CX0 1 (He.ma K (CRo K) "__init__") ["self"] (spHInit K) := by
  obtain ⟨fd, F⟩ := dT T defsC (.inr (.inr rfl)) 0 rfl
  refine ⟨fd, ?_, bind1 F fun _ _ _ _ _ _ _ => rfl, F.kp⟩
  refine F.ok sc_H_init (fun vs H Q E h => by obtain ⟨p, dx, rfl, _⟩ := h; rfl) (fun cdv A outer s H vs Q E hr h => ⟨_,
    (pss_cons (ps_fld (pv 0) (pe_lst pa_nil) rfl)
    (pss_one (ps_fld (pv 0) (pe_lst pa_nil) rfl))), ?_⟩)
  obtain ⟨p, dx, rfl, hp, q⟩ := h
  refine ⟨(by show 0 ≤ sizeLine; decide), fun a ha => ?_⟩
  have s1 := same_new (H := H) (o := .lst []) ha
  refine ⟨_, rfl, p, _, dx, _, rfl, s1 _ _ hp, tclH T, tnt2 T, (by show 0 < 1000; decide), ?_⟩
  have nap : a ≠ p := (ne_of_none hp ha).symm
  have hp1 : upd (upd H a (.lst [])) p (.ins (CRo K) dx (putF "texts" (.ref a) [])) p = some (.ins (CRo K) dx [("texts", .ref a)]) := upd_same
  have ha1 : upd (upd H a (.lst [])) p (.ins (CRo K) dx (putF "texts" (.ref a) [])) a = some (.lst []) := by
    rw [upd_ne nap]
    exact upd_same
  have k1 : Chg p H (upd (upd H a (.lst [])) p (.ins (CRo K) dx (putF "texts" (.ref a) []))) := fun c o e z => by
    rw [upd_ne z]
    exact s1 _ _ e
  generalize upd (upd H a (.lst [])) p (.ins (CRo K) dx (putF "texts" (.ref a) [])) = H1 at *
  refine ⟨(by show 0 ≤ sizeLine; decide), fun b hb => ?_⟩
  have s2 := same_new (H := H1) (o := .lst []) hb
  refine ⟨_, rfl, p, _, dx, _, rfl, s2 _ _ hp1, tclH T, tnr T, (by show 1 < 1000; decide), ?_⟩
  have nbp : b ≠ p := (ne_of_none hp1 hb).symm
  have nab : a ≠ b := ne_of_none ha1 hb
  have hbH : H b = none := by
    cases z : H b with
    | none => rfl
    | some o =>
      rw [k1 b o z nbp] at hb
      cases hb
  refine q _ a b ?_ ?_ ?_ ha hbH nab fun c o e z => ?_
  · rw [upd_same]
    have : putF "records" (.ref b) [(("texts" : Str), V.ref a)] = hF a b := by
      rw [put_past (by decide +kernel)]
      rfl
    rw [this]
  · rw [upd_ne nap]
    exact s2 _ _ ha1
  · rw [upd_ne nbp]
    exact upd_same
  · rw [upd_ne z]
    exact s2 _ _ (k1 c o e z)
/-! ### a call -/
inductive IsCall : Nat → List V → Vacolo.Call → Prop
  | check (t : List Nat) : IsCall 0 (vT t) (.check t)
  | add (t : List Nat) : IsCall 1 (vT t) (.add t)
  | why (t : List Nat) : IsCall 2 (vT t) (.why t)
  | rows {gs : List V} : IsCall 3 gs .rows
  | row (n : Int) : IsCall 4 [.int n] (.row n)
  | schema {gs : List V} : IsCall 5 gs .schema
  | alike (t : List Nat) : IsCall 6 (vT t) (.alike t)
  | drop (n : Int) : IsCall 7 [.int n] (.drop n)
  | needed {gs : List V} : IsCall 8 gs .needed
def spCall (K : PySem.W.Frag) (c : Nat → Prop) : Sp := fun vs H Q _ => ∃ (p a b g : Addr) (i : Nat) (gs : List V) (k : Vacolo.Call) (rs : List Rec), vs = [.ref p, .int (i : Int), .ref g] ∧ c i ∧ Held K H p a b rs ∧ Tb K H ∧ H g = some (.lst gs) ∧ g ≠ a ∧ g ≠ b ∧ IsCall i gs k ∧ Ans K (fun z => z = g) p a b H Q rs k
theorem sc_asked_of_text : FnScope ["rows", "call", "text"] ["rows", "call", "text"] (defScope s_asked_of_text) := ⟨rfl, rfl, rfl, by decide +kernel, rfl, by decide +kernel, by decide +kernel⟩
theorem nat_eq {i j : Nat} {A B : Prop} (h1 : i = j → A) (h2 : i ≠ j → B) : if decide ((V.int (i : Int)) = V.int (j : Int)) = true then A else B := by
  rw [dec_int, ← dib]
  by_cases z : i = j
  · rw [if_pos (decide_eq_true (by omega))]
    exact h1 z
  · rw [if_neg (by rw [decide_eq_false (by omega)]; decide)]
    exact h2 z
theorem due_check {rs : List Rec} {t : List Nat} : Due rs (.check t) [((Vacolo.verdict t).1 : Nat), ((Vacolo.verdict t).2 : Nat)] rs := ⟨rfl, rfl⟩
theorem ok_asked_of_text (T : Txt K mg) (TB : TabB base mg (He.cT K dStr).1 (He.cT K dStr).2) : DefOk P w K mg base CX0 52 (He.ga K "asked_of_text") ["rows", "call", "text"] (spCall K fun i => i = 0 ∨ i = 1 ∨ i = 2 ∨ i = 6) := by
  obtain ⟨fd, F⟩ := dT T defsC (.inr (.inr rfl)) 12 rfl
  refine ⟨fd, ?_, bind3 F fun _ _ _ _ _ _ _ _ _ => rfl, F.kp⟩
  refine F.ok sc_asked_of_text (fun vs H Q E h => by obtain ⟨p, a, b, g, i, gs, k, rs, rfl, _⟩ := h; rfl) (fun cdv A outer s H vs Q E hr h => ⟨_,
    (pss_cons (ps_if (pt_cmpR op_eq (pv 1) pe_int (nomark _)) (pss_one (ps_ret (pmeth (ok_H_check T TB) (pv 0) (tclH T) (tmH T "check" (by decide +kernel)) hr pass0 (pa_cons (pv 2) pa_nil)))) pss_nil)
    (pss_cons (ps_if (pt_cmpR op_eq (pv 1) pe_int (nomark _)) (pss_one (ps_ret (pmeth (ok_H_add T TB) (pv 0) (tclH T) (tmH T "add" (by decide +kernel)) hr pass0 (pa_cons (pv 2) pa_nil)))) pss_nil)
    (pss_cons (ps_if (pt_cmpR op_eq (pv 1) pe_int (nomark _)) (pss_one (ps_ret (pmeth (ok_H_why T TB) (pv 0) (tclH T) (tmH T "why" (by decide +kernel)) hr pass0 (pa_cons (pv 2) pa_nil)))) pss_nil)
    (pss_one (ps_ret (pmeth (ok_H_alike T TB) (pv 0) (tclH T) (tmH T "alike" (by decide +kernel)) hr pass0 (pa_cons (pv 2) pa_nil))))))), ?_⟩)
  obtain ⟨p, a, b, g, i, gs, k, rs, rfl, hi, h, tb, hg, nga, ngb, hc, q⟩ := h
  obtain ⟨dx, hp⟩ := h.ins
  refine ⟨_, rfl, rfl, _, rfl, nat_eq (j := 0) (fun z => ?_) fun z0 => ?_⟩
  · subst z
    cases hc with
    | check t =>
      exact ⟨_, rfl, p, dx, _, rfl, hp, hF_no (by decide +kernel) (by decide +kernel), _, rfl, p, g, t, rfl, SqL.of hg, tb, fun H' l s1 t1 hl e => q.stay h tb due_check.1 due_check.2 s1 t1 hl e⟩
  refine ⟨_, rfl, rfl, _, rfl, nat_eq (j := 1) (fun z => ?_) fun z1 => ?_⟩
  · subst z
    cases hc with
    | add t => exact ⟨_, rfl, p, dx, _, rfl, hp, hF_no (by decide +kernel) (by decide +kernel), _, rfl, p, a, b, g, t, rs, rfl, h, tb, hg, nga, ngb, q⟩
  refine ⟨_, rfl, rfl, _, rfl, nat_eq (j := 2) (fun z => ?_) fun z2 => ?_⟩
  · subst z
    cases hc with
    | why t => exact ⟨_, rfl, p, dx, _, rfl, hp, hF_no (by decide +kernel) (by decide +kernel), _, rfl, p, a, b, g, t, rs, rfl, h, tb, hg, nga, ngb, q⟩
  have z : i = 6 := by omega
  subst z
  cases hc with
  | alike t => exact ⟨_, rfl, p, dx, _, rfl, hp, hF_no (by decide +kernel) (by decide +kernel), _, rfl, p, a, b, g, t, rs, rfl, h, tb, hg, nga, ngb, q⟩
theorem sc_answered : FnScope ["rows", "call", "given"] ["rows", "call", "given"] (defScope s_answered) := ⟨rfl, rfl, rfl, by decide +kernel, rfl, by decide +kernel, by decide +kernel⟩
def listsN (i : Nat) : Int := ([1, 1, 1, 0, 0, 0, 1, 0, 0] : List Int).getD i 0
def numbersN (i : Nat) : Int := ([0, 0, 0, 0, 1, 0, 0, 1, 0] : List Int).getD i 0
theorem lists_at {i : Nat} (h : i < 9) : (([1, 1, 1, 0, 0, 0, 1, 0, 0] : List Int).map V.int)[i]? = some (.int (listsN i)) := by
  unfold listsN
  rw [List.getElem?_map, List.getD_eq_getElem?_getD, List.getElem?_eq_getElem (by simpa using h)]
  rfl
theorem numbers_at {i : Nat} (h : i < 9) : (([0, 0, 0, 0, 1, 0, 0, 1, 0] : List Int).map V.int)[i]? = some (.int (numbersN i)) := by
  unfold numbersN
  rw [List.getElem?_map, List.getD_eq_getElem?_getD, List.getElem?_eq_getElem (by simpa using h)]
  rfl
theorem call_lt {i : Nat} {gs : List V} {k : Vacolo.Call} (h : IsCall i gs k) : i < 9 := by
  cases h <;> decide
theorem due_rows {rs : List Rec} : Due rs .rows [(rs.length : Int)] rs := ⟨rfl, by
  show [(((rs.map Loose.record).length : Nat) : Int)] = _
  rw [List.length_map]⟩
theorem ok_answered (T : Txt K mg) (TB : TabB base mg (He.cT K dStr).1 (He.cT K dStr).2) : DefOk P w K mg base CX0 53 (He.ga K "answered") ["rows", "call", "given"] (spCall K fun _ => True) := by
  obtain ⟨fd, F⟩ := dT T defsC (.inr (.inr rfl)) 13 rfl
  refine ⟨fd, ?_, bind3 F fun _ _ _ _ _ _ _ _ _ => rfl, F.kp⟩
  have mlen := T.free "len" (by decide +kernel)
  obtain ⟨aL, gL, hL⟩ := T.lists
  refine F.ok sc_answered (fun vs H Q E h => by obtain ⟨p, a, b, g, i, gs, k, rs, rfl, _⟩ := h; rfl) (fun cdv A outer s H vs Q E hr h => ⟨_,
    (pss_cons (ps_if (pt_cmpR op_eq (pe_ix ix_tup (pgr gL) (pv 1) (fun _ _ => rfl)) pe_int (nomark _)) (pss_one (ps_ret (pcall (ok_asked_of_text T TB) hr (T.glo "asked_of_text" (by decide +kernel)) pass0 (pa_cons (pv 0) (pa_cons (pv 1) (pa_cons (pv 2) pa_nil)))))) pss_nil)
    (pss_cons (ps_if (pt_cmpR op_eq (pv 1) pe_int (nomark _)) (pss_one (ps_ret (pe_lst (pa_cons (pe_callB (r := fun xs H Q => ∃ a ys, xs = [V.ref a] ∧ (SqL K H a ys ∨ SqT K H a ys) ∧ Q (.int ys.length) H) call_len_seq rfl mlen PySem.boot_len (pa_cons (pe_fld (pv 0) rfl) pa_nil)) pa_nil)))) pss_nil)
    (pss_cons (ps_if (pt_cmpR op_eq (pv 1) pe_int (nomark _)) (pss_one (ps_ret (pmeth (ok_H_row T) (pv 0) (tclH T) (tmH T "row" (by decide +kernel)) (hr.mono (by omega)) pass0 (pa_cons (pe_ix ix_list (pv 2) pe_int (fun _ _ => rfl)) pa_nil)))) pss_nil)
    (pss_cons (ps_if (pt_cmpR op_eq (pv 1) pe_int (nomark _)) (pss_one (ps_ret (pmeth0 (ok_H_schema T) (pv 0) (tclH T) (tmH T "schema" (by decide +kernel)) (hr.mono (by omega)) pass0))) pss_nil)
    (pss_cons (ps_if (pt_cmpR op_eq (pv 1) pe_int (nomark _)) (pss_one (ps_ret (pmeth (ok_H_drop T) (pv 0) (tclH T) (tmH T "drop" (by decide +kernel)) (hr.mono (by omega)) pass0 (pa_cons (pe_ix ix_list (pv 2) pe_int (fun _ _ => rfl)) pa_nil)))) pss_nil)
    (pss_one (ps_ret (pmeth0 (ok_H_needed T) (pv 0) (tclH T) (tmH T "needed" (by decide +kernel)) (hr.mono (by omega)) pass0)))))))), ?_⟩)
  obtain ⟨p, a, b, g, i, gs, k, rs, rfl, _, h, tb, hg, nga, ngb, hc, q⟩ := h
  obtain ⟨dx, hp⟩ := h.ins
  obtain ⟨tx, ha, ht⟩ := h.txt
  have hi := call_lt hc
  refine ⟨_, rfl, aL, _, i, _, rfl, rfl, hL H, atI_nat (lists_at hi), rfl, _, rfl, ifb (fun c => ?_) fun c => ?_⟩
  · have hi' : i = 0 ∨ i = 1 ∨ i = 2 ∨ i = 6 := by
      cases hc <;> first | omega | exact absurd c (by decide)
    exact ⟨_, rfl, _, rfl, _, rfl, p, a, b, g, i, gs, k, rs, rfl, hi', h, tb, hg, nga, ngb, hc, q⟩
  have hi' : ¬ (i = 0 ∨ i = 1 ∨ i = 2 ∨ i = 6) := by
    rintro (z | z | z | z) <;> subst z <;> exact absurd c (by decide)
  refine ⟨_, rfl, rfl, _, rfl, nat_eq (j := 3) (fun z => ?_) fun z3 => ?_⟩
  · subst z
    cases hc with
    | rows =>
      refine ⟨_, rfl, p, _, dx, _, _, rfl, hp, tclH T, tnt2 T, hF_txt, a, _, rfl, .inl (SqL.of ha), (by show 1 ≤ sizeLine; decide), fun l hl => ?_⟩
      have s1 := same_new (H := H) (o := .lst [.int (tx.length : Nat)]) hl
      refine q.stay h tb due_rows.1 due_rows.2 (Same.t s1) (tb.same s1) hl ?_
      rw [upd_same, ht.len]
      rfl
  refine ⟨_, rfl, rfl, _, rfl, nat_eq (j := 4) (fun z => ?_) fun z4 => ?_⟩
  · subst z
    cases hc with
    | row n => exact ⟨_, rfl, p, dx, _, rfl, hp, hF_no (by decide +kernel) (by decide +kernel), _, rfl, g, _, 0, _, rfl, rfl, SqL.of hg, atI_nat (j := 0) rfl, p, a, b, n, rs, rfl, h, tb, q.weak⟩
  refine ⟨_, rfl, rfl, _, rfl, nat_eq (j := 5) (fun z => ?_) fun z5 => ?_⟩
  · subst z
    cases hc with
    | schema => exact ⟨_, rfl, p, dx, _, rfl, hp, hF_no (by decide +kernel) (by decide +kernel), p, a, b, rs, rfl, h, tb, q.weak⟩
  refine ⟨_, rfl, rfl, _, rfl, nat_eq (j := 7) (fun z => ?_) fun z7 => ?_⟩
  · subst z
    cases hc with
    | drop n => exact ⟨_, rfl, p, dx, _, rfl, hp, hF_no (by decide +kernel) (by decide +kernel), _, rfl, g, _, 0, _, rfl, rfl, SqL.of hg, atI_nat (j := 0) rfl, p, a, b, n, rs, rfl, h, tb, q.weak⟩
  have z : i = 8 := by omega
  subst z
  cases hc with
  | needed => exact ⟨_, rfl, p, dx, _, rfl, hp, hF_no (by decide +kernel) (by decide +kernel), p, a, b, rs, rfl, h, tb, q.weak⟩
end SF
end -- S23

section -- Y1
set_option Elab.async false
set_option linter.all false
set_option maxRecDepth 100000
set_option maxHeartbeats 2000000
/-! # Y1: the calls one behind another in the list -/
namespace SF
open PyVacolo (shape whole)
/-- one call as it lies in the list at i; it ends at j -/
inductive CallAt (l : List Int) (i : Nat) : Nat → List (List Int) → Nat → Prop
  | text {c n : Nat} : (c = 0 ∨ c = 1 ∨ c = 2 ∨ c = 6) → l[i]? = some (c : Int) → l[i + 1]? = some (n : Int) → i + 2 + n ≤ l.length → CallAt l i c [[(c : Int)], (l.drop (i + 2)).take n] (i + 2 + n)
  | num {c : Nat} {x : Int} : (c = 4 ∨ c = 7) → l[i]? = some (c : Int) → l[i + 1]? = some x → CallAt l i c [[(c : Int), x]] (i + 2)
  | plain {c : Nat} : (c = 3 ∨ c = 5 ∨ c = 8) → l[i]? = some (c : Int) → CallAt l i c [[(c : Int)]] (i + 1)
theorem shape_ok {p : Int} {n k : Nat} (h : shape p = some (n, k)) : ∃ c : Nat, p = c ∧ (((c = 0 ∨ c = 1 ∨ c = 2 ∨ c = 6) ∧ n = 0 ∧ k = 1) ∨ ((c = 4 ∨ c = 7) ∧ n = 1 ∧ k = 0) ∨ ((c = 3 ∨ c = 5 ∨ c = 8) ∧ n = 0 ∧ k = 0)) := by
  unfold shape at h
  by_cases h0 : p = 0
  · rw [if_pos h0] at h; cases h; exact ⟨0, h0, by simp⟩
  rw [if_neg h0] at h
  by_cases h1 : p = 1
  · rw [if_pos h1] at h; cases h; exact ⟨1, h1, by simp⟩
  rw [if_neg h1] at h
  by_cases h2 : p = 2
  · rw [if_pos h2] at h; cases h; exact ⟨2, h2, by simp⟩
  rw [if_neg h2] at h
  by_cases h3 : p = 3
  · rw [if_pos h3] at h; cases h; exact ⟨3, h3, by simp⟩
  rw [if_neg h3] at h
  by_cases h4 : p = 4
  · rw [if_pos h4] at h; cases h; exact ⟨4, h4, by simp⟩
  rw [if_neg h4] at h
  by_cases h5 : p = 5
  · rw [if_pos h5] at h; cases h; exact ⟨5, h5, by simp⟩
  rw [if_neg h5] at h
  by_cases h6 : p = 6
  · rw [if_pos h6] at h; cases h; exact ⟨6, h6, by simp⟩
  rw [if_neg h6] at h
  by_cases h7 : p = 7
  · rw [if_pos h7] at h; cases h; exact ⟨7, h7, by simp⟩
  rw [if_neg h7] at h
  by_cases h8 : p = 8
  · rw [if_pos h8] at h; cases h; exact ⟨8, h8, by simp⟩
  rw [if_neg h8] at h
  cases h
theorem CallAt.ends {l : List Int} {i c j : Nat} {raw : List (List Int)} (h : CallAt l i c raw j) : i < j ∧ j ≤ l.length := by
  cases h with
  | text hc h1 h2 h3 => omega
  | num hc h1 h2 =>
    have := (List.getElem?_eq_some_iff.mp h2).1
    omega
  | plain hc h1 =>
    have := (List.getElem?_eq_some_iff.mp h1).1
    omega
theorem dec_one {l : List Int} {i : Nat} {raw : List (List Int)} {t : List Int} (hi : i < l.length) (h : PyFlat.call shape (l.drop i) = some (raw, t)) : ∃ c j, CallAt l i c raw j ∧ t = l.drop j := by
  rw [List.drop_eq_getElem_cons hi] at h
  have hp : l[i]? = some l[i] := List.getElem?_eq_getElem hi
  generalize l[i] = p at h hp
  unfold PyFlat.call at h
  dsimp only at h
  cases e : shape p with
  | none =>
    rw [e] at h
    cases h
  | some nk =>
    obtain ⟨n, k⟩ := nk
    rw [e] at h
    dsimp only at h
    split at h
    · cases h
    · rename_i hlen
      obtain ⟨c, rfl, ⟨hc, rfl, rfl⟩ | ⟨hc, rfl, rfl⟩ | ⟨hc, rfl, rfl⟩⟩ := shape_ok e
      · rw [List.drop_zero, List.take_zero] at h
        unfold PyFlat.rows at h
        cases e2 : PyFlat.row (l.drop (i + 1)) with
        | none =>
          rw [e2] at h
          cases h
        | some xs =>
          obtain ⟨x, s⟩ := xs
          rw [e2] at h
          unfold PyFlat.rows at h
          cases h
          unfold PyFlat.row at e2
          split at e2
          · cases e2
          · rename_i n r en
            split at e2
            · rename_i hn
              cases e2
              have h1 : i + 1 < l.length := by
                rcases Nat.lt_or_ge (i + 1) l.length with z | z
                · exact z
                · rw [List.drop_eq_nil_of_le z] at en
                  cases en
              rw [List.drop_eq_getElem_cons h1] at en
              injection en with en1 en2
              have hr : r = l.drop (i + 2) := en2.symm
              subst hr
              obtain ⟨m, hm⟩ := Int.eq_ofNat_of_zero_le hn.1
              subst hm
              have hm2 : ((m : Int)).toNat = m := by omega
              rw [hm2] at hn ⊢
              rw [List.length_drop] at hn
              refine ⟨c, i + 2 + m, .text hc hp ?_ (by omega), ?_⟩
              · rw [List.getElem?_eq_getElem h1, en1]
              · rw [List.drop_drop]
            · cases e2
      · unfold PyFlat.rows at h
        cases h
        have h1 : i + 1 < l.length := by
          rw [List.length_drop] at hlen
          omega
        rw [List.drop_eq_getElem_cons h1, List.take_succ_cons, List.take_zero, List.drop_succ_cons, List.drop_zero]
        exact ⟨c, i + 2, .num hc hp (List.getElem?_eq_getElem h1), rfl⟩
      · unfold PyFlat.rows at h
        cases h
        exact ⟨c, i + 1, .plain hc hp, rfl⟩
theorem dec_step {l : List Int} {i f : Nat} {cs : List (List (List Int))} (hi : i < l.length) (h : PyFlat.calls shape f (l.drop i) = some cs) : ∃ c raw cs' f' j, cs = raw :: cs' ∧ CallAt l i c raw j ∧ PyFlat.calls shape f' (l.drop j) = some cs' := by
  cases f with
  | zero =>
    rw [List.drop_eq_getElem_cons hi] at h
    cases h
  | succ f =>
    have e : PyFlat.calls shape (f + 1) (l.drop i) = match PyFlat.call shape (l.drop i) with
        | none => none
        | some (c, t) => match PyFlat.calls shape f t with
          | none => none
          | some cs => some (c :: cs) := by
      rw [List.drop_eq_getElem_cons hi]
      rfl
    rw [e] at h
    cases e1 : PyFlat.call shape (l.drop i) with
    | none =>
      rw [e1] at h
      cases h
    | some x =>
      obtain ⟨raw, t⟩ := x
      rw [e1] at h
      dsimp only at h
      cases e2 : PyFlat.calls shape f t with
      | none =>
        rw [e2] at h
        cases h
      | some cs' =>
        rw [e2] at h
        cases h
        obtain ⟨c, j, h1, rfl⟩ := dec_one hi e1
        exact ⟨c, raw, cs', f, j, rfl, h1, e2⟩
theorem dec_end {l : List Int} {i f : Nat} {cs : List (List (List Int))} (hi : l.length ≤ i) (h : PyFlat.calls shape f (l.drop i) = some cs) : cs = [] := by
  rw [List.drop_eq_nil_of_le hi] at h
  cases f <;> (cases h; rfl)
theorem CallAt.whole {l : List Int} {i c j : Nat} {raw : List (List Int)} (h : CallAt l i c raw j) : PyVacolo.whole raw = raw := by
  cases h with
  | text hc h1 h2 h3 => rcases hc with z | z | z | z <;> subst z <;> rfl
  | num hc h1 h2 => rcases hc with z | z <;> subst z <;> rfl
  | plain hc h1 => rcases hc with z | z | z <;> subst z <;> rfl
theorem bytes_of_asked {a : List Int} (h : a.all (fun z => VacoloNeutral.natural z 8) = true) : NeutralIO.bytes a = true ∧ a = (VacoloNeutral.text a).map fun n => ((n : Nat) : Int) := by
  have hz : ∀ z ∈ a, 0 ≤ z ∧ z ≤ 255 := fun z hz => by
    have := List.all_eq_true.mp h z hz
    unfold VacoloNeutral.natural at this
    rw [Bool.and_eq_true] at this
    have h1 := of_decide_eq_true this.1
    have h2 := of_decide_eq_true this.2
    omega
  constructor
  · unfold NeutralIO.bytes
    refine List.all_eq_true.mpr fun z hz' => ?_
    obtain ⟨h1, h2⟩ := hz z hz'
    rw [Bool.and_eq_true]
    exact ⟨decide_eq_true h1, decide_eq_true h2⟩
  · unfold VacoloNeutral.text
    rw [List.map_map]
    have e : a.map ((fun n : Nat => ((n : Nat) : Int)) ∘ Int.toNat) = a.map id := List.map_congr_left fun z hz' => by
      show ((z.toNat : Nat) : Int) = z
      have := (hz z hz').1
      omega
    rw [e, List.map_id]
/-- what a call is, by its numbers -/
inductive KindOf (l : List Int) (i : Nat) : Nat → Vacolo.Call → Prop
  | check {n : Nat} (t : List Nat) : l[i + 1]? = some (n : Int) → i + 2 + n ≤ l.length → (l.drop (i + 2)).take n = (t.map fun n => ((n : Nat) : Int)) → KindOf l i 0 (.check t)
  | add {n : Nat} (t : List Nat) : l[i + 1]? = some (n : Int) → i + 2 + n ≤ l.length → (l.drop (i + 2)).take n = (t.map fun n => ((n : Nat) : Int)) → KindOf l i 1 (.add t)
  | why {n : Nat} (t : List Nat) : l[i + 1]? = some (n : Int) → i + 2 + n ≤ l.length → (l.drop (i + 2)).take n = (t.map fun n => ((n : Nat) : Int)) → KindOf l i 2 (.why t)
  | rows : KindOf l i 3 .rows
  | row {x : Int} : l[i + 1]? = some x → KindOf l i 4 (.row x)
  | schema : KindOf l i 5 .schema
  | alike {n : Nat} (t : List Nat) : l[i + 1]? = some (n : Int) → i + 2 + n ≤ l.length → (l.drop (i + 2)).take n = (t.map fun n => ((n : Nat) : Int)) → KindOf l i 6 (.alike t)
  | drop {x : Int} : l[i + 1]? = some x → KindOf l i 7 (.drop x)
  | needed : KindOf l i 8 .needed
/-- where the call ends -/
def endOf (l : List Int) (i c : Nat) : Int := if c = 0 ∨ c = 1 ∨ c = 2 ∨ c = 6 then i + 2 + l.getD (i + 1) 0 else if c = 4 ∨ c = 7 then i + 2 else i + 1
theorem CallAt.kind {l : List Int} {i c j : Nat} {raw : List (List Int)} (h : CallAt l i c raw j) (ha : VacoloNeutral.asked1 raw = true) : ∃ k, VacoloNeutral.callOf raw = some k ∧ KindOf l i c k ∧ l[i]? = some (c : Int) ∧ endOf l i c = j := by
  cases h with
  | text hc h1 h2 h3 =>
    rename_i n
    have hE : ∀ c, (c = 0 ∨ c = 1 ∨ c = 2 ∨ c = 6) → endOf l i c = ((i + 2 + n : Nat) : Int) := fun c hc => by
      unfold endOf
      rw [if_pos hc, List.getD_eq_getElem?_getD, h2]
      show (i : Int) + 2 + (n : Int) = _
      omega
    have hb : ((l.drop (i + 2)).take n).all (fun z => VacoloNeutral.natural z 8) = true := by
      rcases hc with z | z | z | z <;> subst z <;> exact (Bool.and_eq_true_iff.mp ha).1
    obtain ⟨b1, b2⟩ := bytes_of_asked hb
    rcases hc with z | z | z | z <;> subst z
    · exact ⟨.check (VacoloNeutral.text ((l.drop (i + 2)).take n)), if_pos b1, .check _ h2 h3 b2, h1, hE _ (by omega)⟩
    · exact ⟨.add (VacoloNeutral.text ((l.drop (i + 2)).take n)), if_pos b1, .add _ h2 h3 b2, h1, hE _ (by omega)⟩
    · exact ⟨.why (VacoloNeutral.text ((l.drop (i + 2)).take n)), if_pos b1, .why _ h2 h3 b2, h1, hE _ (by omega)⟩
    · exact ⟨.alike (VacoloNeutral.text ((l.drop (i + 2)).take n)), if_pos b1, .alike _ h2 h3 b2, h1, hE _ (by omega)⟩
  | num hc h1 h2 =>
    rename_i x
    have hE : ∀ c, (c = 4 ∨ c = 7) → endOf l i c = ((i + 2 : Nat) : Int) := fun c hc => by
      unfold endOf
      rw [if_neg (by omega), if_pos hc]
      rfl
    rcases hc with z | z <;> subst z
    · exact ⟨.row x, rfl, .row h2, h1, hE _ (by omega)⟩
    · exact ⟨.drop x, rfl, .drop h2, h1, hE _ (by omega)⟩
  | plain hc h1 =>
    have hE : ∀ c, (c = 3 ∨ c = 5 ∨ c = 8) → endOf l i c = ((i + 1 : Nat) : Int) := fun c hc => by
      unfold endOf
      rw [if_neg (by omega), if_neg (by omega)]
      rfl
    rcases hc with z | z | z <;> subst z
    · exact ⟨.rows, rfl, .rows, h1, hE _ (by omega)⟩
    · exact ⟨.schema, rfl, .schema, h1, hE _ (by omega)⟩
    · exact ⟨.needed, rfl, .needed, h1, hE _ (by omega)⟩
/-- what is asked, told apart -/
structure Asked (l : List Int) (cs : List (List (List Int))) : Prop where
  dec : PyFlat.calls shape l.length l = some cs
  each : ∀ raw ∈ cs, VacoloNeutral.asked1 (PyVacolo.whole raw) = true
  short : (PyVacolo.answers l).length ≤ 10000000
theorem asked_of {l : List Int} (h : PyVacolo.answers_asked l = true) : ∃ cs, Asked l cs := by
  unfold PyVacolo.answers_asked at h
  cases e : PyFlat.calls shape l.length l with
  | none =>
    rw [e] at h
    cases h
  | some cs =>
    rw [e] at h
    dsimp only at h
    simp only [Bool.and_eq_true] at h
    obtain ⟨⟨⟨_, _⟩, h1⟩, h2⟩ := h
    refine ⟨cs, e, fun raw hr => ?_, of_decide_eq_true h2⟩
    unfold VacoloNeutral.asked at h1
    rw [Bool.and_eq_true] at h1
    exact List.all_eq_true.mp h1.1 _ (List.mem_map_of_mem hr)
theorem answers_eq {l : List Int} {cs : List (List (List Int))} (h : Asked l cs) : PyVacolo.answers l = PyFlat.told (PyFlat.played VacoloNeutral.step VacoloNeutral.start (cs.map PyVacolo.whole)) := by
  unfold PyVacolo.answers PyVacolo.calls
  rw [h.dec]
theorem told_cons (s : VacoloNeutral.S) (c : VacoloNeutral.Call) (r : List VacoloNeutral.Call) {k : Vacolo.Call} (h : VacoloNeutral.callOf c = some k) : PyFlat.told (PyFlat.played VacoloNeutral.step s (c :: r)) = ((VacoloNeutral.encode (Vacolo.step s k).2).length : Int) :: (VacoloNeutral.encode (Vacolo.step s k).2 ++ PyFlat.told (PyFlat.played VacoloNeutral.step (Vacolo.step s k).1 r)) := by
  have e : VacoloNeutral.step s c = ((Vacolo.step s k).1, VacoloNeutral.encode (Vacolo.step s k).2) := by
    unfold VacoloNeutral.step
    rw [h]
  show PyFlat.told ((VacoloNeutral.step s c).2 :: PyFlat.played VacoloNeutral.step (VacoloNeutral.step s c).1 r) = _
  rw [e]
  rfl
end SF
end -- Y1

section -- S24
set_option Elab.async false
set_option linter.all false
set_option maxRecDepth 100000
set_option maxHeartbeats 8000000
/-! # S24: answers -/
namespace SF
open PySem PySem.Spec PyProof.Rows L2
open LamX (CodeO TabS ExtN TabB)
open Vacolo (Loose found schemaOf readRow showRow)
open PyVacolo (shape whole)
variable {P : Program} {w : World} {K : PySem.W.Frag} {mg : Str → Option Value} {base : Heap}
theorem cut_mid {xs : List V} {a b : Nat} {x y : Int} (hx : x = a) (hy : y = b) (h1 : a ≤ xs.length) (h2 : b ≤ xs.length) : cutV xs (some x) (some y) = (xs.drop a).take (b - a) := by
  subst hx
  subst hy
  unfold cutV
  rw [HT.sIx_nat, HT.sIx_nat, Nat.min_eq_left h1, Nat.min_eq_left h2]
theorem ints_nats (t : List Nat) : (t.map fun n => ((n : Nat) : Int)).map V.int = vT t := by
  rw [List.map_map]
  rfl
/-- the list of a call's text or number -/
theorem given_is {l : List Int} {i c j : Nat} {k : Vacolo.Call} (h : KindOf l i c k) : (listsN c = 1 ∧ ∃ n : Nat, l[i + 1]? = some (n : Int) ∧ i + 2 + n ≤ l.length ∧ endOf l i c = ((i + 2 + n : Nat) : Int) ∧ IsCall c (((l.map V.int).drop (i + 2)).take n) k) ∨
    (listsN c = 0 ∧ i + 1 + (numbersN c).toNat ≤ max l.length (i + 1) ∧ endOf l i c = ((i + 1 : Nat) : Int) + numbersN c ∧ IsCall c (((l.map V.int).drop (i + 1)).take (numbersN c).toNat) k) := by
  have tx : ∀ {n : Nat} {t : List Nat}, (l.drop (i + 2)).take n = (t.map fun n => ((n : Nat) : Int)) → ((l.map V.int).drop (i + 2)).take n = vT t := fun {n t} e => by
    rw [← List.map_drop, ← List.map_take, e, ints_nats]
  have en : ∀ {c n : Nat}, (c = 0 ∨ c = 1 ∨ c = 2 ∨ c = 6) → l[i + 1]? = some (n : Int) → endOf l i c = ((i + 2 + n : Nat) : Int) := fun {c n} hc h2 => by
    unfold endOf
    rw [if_pos hc, List.getD_eq_getElem?_getD, h2]
    show (i : Int) + 2 + (n : Int) = _
    omega
  have nu : ∀ {x : Int}, l[i + 1]? = some x → ((l.map V.int).drop (i + 1)).take 1 = [V.int x] ∧ i + 1 + 1 ≤ max l.length (i + 1) := fun {x} h1 => by
    obtain ⟨h2, h3⟩ := List.getElem?_eq_some_iff.mp h1
    refine ⟨?_, by omega⟩
    rw [← List.map_drop, List.drop_eq_getElem_cons h2, h3]
    rfl
  cases h with
  | check t h1 h2 h3 =>
    refine .inl ⟨rfl, _, h1, h2, en (by omega) h1, ?_⟩
    rw [tx h3]
    exact .check t
  | add t h1 h2 h3 =>
    refine .inl ⟨rfl, _, h1, h2, en (by omega) h1, ?_⟩
    rw [tx h3]
    exact .add t
  | why t h1 h2 h3 =>
    refine .inl ⟨rfl, _, h1, h2, en (by omega) h1, ?_⟩
    rw [tx h3]
    exact .why t
  | alike t h1 h2 h3 =>
    refine .inl ⟨rfl, _, h1, h2, en (by omega) h1, ?_⟩
    rw [tx h3]
    exact .alike t
  | rows => exact .inr ⟨rfl, by show i + 1 + 0 ≤ _; omega, rfl, .rows⟩
  | schema => exact .inr ⟨rfl, by show i + 1 + 0 ≤ _; omega, rfl, .schema⟩
  | needed => exact .inr ⟨rfl, by show i + 1 + 0 ≤ _; omega, rfl, .needed⟩
  | row h1 =>
    refine .inr ⟨rfl, (nu h1).2, ?_, ?_⟩
    · show (i : Int) + 2 = ((i + 1 : Nat) : Int) + 1
      omega
    · show IsCall 4 (((l.map V.int).drop (i + 1)).take 1) _
      rw [(nu h1).1]
      exact .row _
  | drop h1 =>
    refine .inr ⟨rfl, (nu h1).2, ?_, ?_⟩
    · show (i : Int) + 2 = ((i + 1 : Nat) : Int) + 1
      omega
    · show IsCall 7 (((l.map V.int).drop (i + 1)).take 1) _
      rw [(nu h1).1]
      exact .drop _
def spAnswers (K : PySem.W.Frag) : Sp := fun vs H Q _ => ∃ (c : Addr) (l : List Int), vs = [.ref c] ∧ SqL K H c (l.map V.int) ∧ Tb K H ∧ PyVacolo.answers_asked l = true ∧ ∀ H' f, SmT K H H' → Tb K H' → H f = none → H' f = some (.lst ((PyVacolo.answers l).map V.int)) → Q (.ref f) H'
/-- between two calls -/
structure Mid (K : PySem.W.Frag) (l : List Int) (H0 H : Hp) (p a b f : Addr) (i : Nat) (rs : List Rec) (acc : List Int) (cs : List (List (List Int))) : Prop where
  le : i ≤ l.length
  dec : ∃ fu, PyFlat.calls shape fu (l.drop i) = some cs
  each : ∀ raw ∈ cs, VacoloNeutral.asked1 (whole raw) = true
  eq : PyVacolo.answers l = acc ++ PyFlat.told (PyFlat.played VacoloNeutral.step ⟨rs.map Loose.record⟩ (cs.map whole))
  out : H f = some (.lst (acc.map V.int))
  held : Held K (dl H fun c => decide (c = f)) p a b rs
  tb : Tb K H
  smt : SmT K H0 H
  np : H0 p = none
  na : H0 a = none
  nb : H0 b = none
  nf : H0 f = none
abbrev ansN : List Str := ["calls", "rows", "found", "at", "call", "behind", "given", "told"]
theorem sc_answers : FnScope ansN ["calls"] (defScope s_answers) := ⟨rfl, rfl, rfl, by decide +kernel, rfl, by decide +kernel, by decide +kernel⟩
theorem fn_answers {fd : FuncData} (F : Fun K "answers" "answers" s_answers (He.ga K "answers") fd) (T : Txt K mg) (TB : TabB base mg (He.cT K dStr).1 (He.cT K dStr).2) : FnOk P w K mg base CX0 54 (He.ga K "answers") fd ["calls"] (spAnswers K) := by
  have nd := sc_answers.nd
  have mlen := T.free "len" (by decide +kernel)
  obtain ⟨aL, gL, hL⟩ := T.lists
  obtain ⟨aN, gN, hN⟩ := T.nums
  refine F.ok sc_answers (fun vs H Q E h => by obtain ⟨c, l, rfl, _⟩ := h; rfl) (fun cdv A outer s H vs Q E hr h => ⟨_,
    (pss_cons (ps_set (i := 1) nd rfl (.inl rfl) (pmake0 (ok_H_init T) (T.cls "Rows" (by decide +kernel)).2 (hr.mono (by omega)) (T.glo "Rows" (by decide +kernel)) pass0))
    (pss_cons (ps_set (i := 2) nd rfl (.inl rfl) (pe_lst pa_nil))
    (pss_cons (ps_set (i := 3) nd rfl (.inl rfl) pe_int)
    (pss_cons (ps_while PassesOwn.never (pt_cmpR op_lt (pv 3) (pe_callB (r := fun xs H Q => ∃ a ys, xs = [V.ref a] ∧ (SqL K H a ys ∨ SqT K H a ys) ∧ Q (.int ys.length) H) call_len_seq rfl mlen PySem.boot_len (pa_cons (pv 0) pa_nil)) (nomark _))
      (pss_cons (ps_set (i := 4) nd rfl (.inl rfl) (pe_ix ix_list (pv 0) (pv 3) (fun _ _ => rfl)))
    (pss_cons (ps_set (i := 5) nd rfl (.inl rfl) (pe_op op_add (pe_op op_add (pv 3) pe_int) (pe_ix ix_tup (pgr gN) (pv 4) (fun _ _ => rfl))))
    (pss_cons (ps_set (i := 6) nd rfl (.inl rfl) (pe_slice sl_list (pv 0) (po_some (pe_op op_add (pv 3) pe_int)) (po_some (pv 5))))
    (pss_cons (ps_join (ps_if (pt_cmpR op_eq (pe_ix ix_tup (pgr gL) (pv 4) (fun _ _ => rfl)) pe_int (nomark _))
        (pss_cons (ps_set (i := 5) nd rfl (.inl rfl) (pe_op op_add (pe_op op_add (pv 3) pe_int) (pe_ix ix_list (pv 0) (pe_op op_add (pv 3) pe_int) (fun _ _ => rfl))))
    (pss_one (ps_set (i := 6) nd rfl (.inl rfl) (pe_slice sl_list (pv 0) (po_some (pe_op op_add (pv 3) pe_int)) (po_some (pv 5)))))) pss_nil))
    (pss_cons (ps_set (i := 7) nd rfl (.inl rfl) (pcall (ok_answered T TB) hr (T.glo "answered" (by decide +kernel)) pass0 (pa_cons (pv 1) (pa_cons (pv 4) (pa_cons (pv 6) pa_nil)))))
    (pss_cons (ps_expr (pe_bm PySem.F.plainAttrs_list PySem.F.slot_list_append PySem.F.type_list_append mt_append (pv 2) (pa_cons (pe_callB (r := fun xs H Q => ∃ a ys, xs = [V.ref a] ∧ (SqL K H a ys ∨ SqT K H a ys) ∧ Q (.int ys.length) H) call_len_seq rfl mlen PySem.boot_len (pa_cons (pv 7) pa_nil)) pa_nil)))
    (pss_cons (ps_expr (pe_bm PySem.F.plainAttrs_list PySem.F.slot_list_extend PySem.F.type_list_extend mt_extend (pv 2) (pa_cons (pv 7) pa_nil)))
    (pss_one (ps_set (i := 3) nd rfl (.inl rfl) (pv 5)))))))))))
    (pss_one (ps_ret (pv 2))))))), ?_⟩)
  obtain ⟨c, l, rfl, hS, tb, hask, q⟩ := h
  have hsz : sizeLine = 16777216 := rfl
  obtain ⟨cs0, A0⟩ := asked_of hask
  have hshort := A0.short
  have hll : ((l.map V.int).length : Int) = l.length := by rw [List.length_map]
  -- Rows()
  intro p dx hp0 hdx0 hdp
  have sx : Same H (upd (upd H dx (.own p)) p (.ins (CRo K) dx [])) := fun b o e => by
    rw [upd_ne (ne_of_none e hp0), upd_ne (ne_of_none e hdx0)]
    exact e
  refine ⟨p, dx, rfl, upd_same, fun H1 a b hp1 ha1 hb1 ha0 hb0 nab c1 => ⟨rfl, ?_⟩⟩
  have s1 : Same H H1 := fun x o e => c1 _ _ (sx _ _ e) (ne_of_none e hp0)
  have haH : H a = none := Same.fresh sx ha0
  have hbH : H b = none := Same.fresh sx hb0
  refine ⟨(by show 0 ≤ sizeLine; decide), fun f hf => ?_⟩
  have s2 := same_new (H := H1) (o := .lst []) hf
  have hf2 : upd H1 f (.lst []) f = some (.lst []) := upd_same
  have s12 := Same.trans s1 s2
  have hfH : H f = none := Same.fresh s1 hf
  have hheld : Held K (dl (upd H1 f (.lst [])) fun c => decide (c = f)) p a b [] := by
    have ff : ∀ {x o}, H1 x = some o → dl (upd H1 f (.lst [])) (fun c => decide (c = f)) x = some o := fun {x o} e => by
      have z := ne_of_none e hf
      rw [dl_of (decide_eq_false z)]
      exact s2 _ _ e
    exact ⟨⟨dx, ff hp1⟩, ⟨[], ff ha1, trivial⟩, ⟨[], ff hb1, .nil⟩, nab, ⟨by simp, by simp, .inl rfl⟩⟩
  generalize upd H1 f (.lst []) = H2 at *
  refine ⟨fun m σ Hx => ∃ (p a b f : Addr) (i : Nat) (rs : List Rec) (acc : List Int) (cs : List (List (List Int))) (b4 b5 b6 b7 : Option V), m = l.length - i ∧ σ = [some (.ref c), some (.ref p), some (.ref f), some (.int (i : Int)), b4, b5, b6, b7] ∧ Mid K l H Hx p a b f i rs acc cs,
    ⟨_, p, a, b, f, 0, [], [], cs0, none, none, none, none, rfl, rfl, ⟨Nat.zero_le _, ⟨_, A0.dec⟩, A0.each, answers_eq A0, hf2, hheld, tb.same s12, Same.t s12, hp0, haH, hbH, hfH⟩⟩, ?_⟩
  clear hheld hf2 hf s2 s12 hfH nab hb1 ha1 hp1 s1 haH hbH ha0 hb0 c1 sx
  rintro m σ Hx ⟨p, a, b, f, i, rs, acc, cs, b4, b5, b6, b7, rfl, rfl, M⟩
  have hSx : SqL K Hx c (l.map V.int) := M.smt.seq tb hS
  refine ⟨_, rfl, _, rfl, c, _, rfl, .inl hSx, _, _, rfl, rfl, _, rfl, ifb (fun cc => ?_) fun cc => ?_⟩
  rotate_left
  · have c' : ¬ (i : Int) < ((l.map V.int).length : Int) := of_decide_eq_false cc
    rw [hll] at c'
    obtain ⟨fu, hfu⟩ := M.dec
    have e := dec_end (by omega) hfu
    subst e
    refine ⟨_, rfl, q Hx f M.smt M.tb M.nf ?_⟩
    rw [M.out, M.eq]
    simp [PyFlat.played, PyFlat.told]
  have c' : (i : Int) < ((l.map V.int).length : Int) := of_decide_eq_true cc
  rw [hll] at c'
  have hi : i < l.length := by omega
  obtain ⟨fu, hfu⟩ := M.dec
  obtain ⟨n, raw, cs', f', j, rfl, hat, hdec⟩ := dec_step hi hfu
  have hask1 := M.each raw List.mem_cons_self
  rw [hat.whole] at hask1
  obtain ⟨k, hk, hkind, hln, hend⟩ := hat.kind hask1
  have hjl := hat.ends
  have hn9 : n < 9 := by cases hkind <;> decide
  have hpl : (l.map V.int)[i]? = some (.int (n : Int)) := by rw [List.getElem?_map, hln]; rfl
  refine ⟨fun σ' H2 => ∃ m', m' < l.length - i ∧ ∃ (p a b f : Addr) (i : Nat) (rs : List Rec) (acc : List Int) (cs : List (List (List Int))) (b4 b5 b6 b7 : Option V), m' = l.length - i ∧ σ' = [some (.ref c), some (.ref p), some (.ref f), some (.int (i : Int)), b4, b5, b6, b7] ∧ Mid K l H H2 p a b f i rs acc cs, fun _ _ z => z, ?_⟩
  refine ⟨_, rfl, _, rfl, c, _, i, _, rfl, rfl, hSx, atI_nat hpl, ?_⟩
  refine ⟨_, rfl, _, _, rfl, rfl, _, rfl, aN, _, n, _, rfl, rfl, hN Hx, atI_nat (numbers_at hn9), _, _, rfl, rfl, ?_⟩
  refine ⟨_, rfl, _, rfl, _, _, rfl, rfl, _, rfl, _, rfl, _, rfl, c, _, rfl, hSx, fun g hg => ?_⟩
  have sg := same_new (H := Hx) (o := .lst (cutV (l.map V.int) (some ((i : Int) + 1)) (some ((i : Int) + 1 + numbersN n)))) hg
  -- after the if
  refine ⟨fun σ' H' => ∃ (g : Addr) (gs : List V), σ' = [some (.ref c), some (.ref p), some (.ref f), some (.int (i : Int)), some (.int (n : Int)), some (.int (j : Int)), some (.ref g), b7] ∧ Same Hx H' ∧ Hx g = none ∧ H' g = some (.lst gs) ∧ IsCall n gs k, ?_, ?_⟩
  · refine ⟨_, rfl, aL, _, n, _, rfl, rfl, hL _, atI_nat (lists_at hn9), rfl, _, rfl, ?_⟩
    rcases given_is (j := j) hkind with ⟨e1, mm, h1, h2, h3, h4⟩ | ⟨e1, h2, h3, h4⟩
    · rw [e1]
      refine ifT rfl ?_
      have hpl1 : (l.map V.int)[i + 1]? = some (.int (mm : Int)) := by rw [List.getElem?_map, h1]; rfl
      have hj : j = i + 2 + mm := by
        rw [hend] at h3
        omega
      refine ⟨_, rfl, _, _, rfl, rfl, _, rfl, _, rfl, _, _, rfl, rfl, c, _, ((i + 1 : Nat) : Int), _, rfl, rfl, sg.seq hSx, atI_nat hpl1, _, _, rfl, rfl, ?_⟩
      refine ⟨_, rfl, _, rfl, _, _, rfl, rfl, _, rfl, _, rfl, _, rfl, c, _, rfl, sg.seq hSx, fun g2 hg2 => ?_⟩
      refine ⟨g2, _, ?_, Same.trans sg (same_new hg2), Same.fresh sg hg2, upd_same, ?_⟩
      · have : (i : Int) + 2 + (mm : Int) = (j : Int) := by omega
        show [some (V.ref c), some (.ref p), some (.ref f), some (.int (i : Int)), some (.int (n : Int)), some (.int ((i : Int) + 2 + (mm : Int))), some (.ref g2), b7] = _
        rw [this]
      · rw [cut_mid (a := i + 2) (b := j) (by omega) (by omega) (by rw [List.length_map]; omega) (by rw [List.length_map]; omega)]
        have : j - (i + 2) = mm := by omega
        rw [this]
        exact h4
    · rw [e1]
      refine ifF rfl ?_
      have hnn : numbersN n = 0 ∨ numbersN n = 1 := by cases hkind <;> first | exact .inl rfl | exact .inr rfl
      have hj : (j : Int) = ((i + 1 : Nat) : Int) + numbersN n := by rw [← hend, h3]
      refine ⟨g, _, ?_, sg, hg, upd_same, ?_⟩
      · have : (i : Int) + 1 + numbersN n = (j : Int) := by omega
        show [some (V.ref c), some (.ref p), some (.ref f), some (.int (i : Int)), some (.int (n : Int)), some (.int ((i : Int) + 1 + numbersN n)), some (.ref g), b7] = _
        rw [this]
      · rw [cut_mid (a := i + 1) (b := j) (by omega) (by omega) (by rw [List.length_map]; omega) (by rw [List.length_map]; omega)]
        have : j - (i + 1) = (numbersN n).toNat := by omega
        rw [this]
        exact h4
  rintro σ' H3 ⟨g, gs, rfl, s3, hg0, hg3, hcall⟩
  have hd3 : Held K (dl H3 fun c => decide (c = f)) p a b rs := M.held.smtD (Same.t s3) M.tb
  have hd3' := hd3.same dl_same
  have tb3 := M.tb.same s3
  have hf3 := s3 _ _ M.out
  obtain ⟨⟨dx3, hp3⟩, ⟨tx3, ha3, _⟩, ⟨rx3, hb3, _⟩, nab3, _⟩ := hd3
  obtain ⟨up, hp3'⟩ := dl_some hp3
  obtain ⟨ua, ha3'⟩ := dl_some ha3
  obtain ⟨ub, hb3'⟩ := dl_some hb3
  have npf : p ≠ f := of_decide_eq_false up
  have naf : a ≠ f := of_decide_eq_false ua
  have nbf : b ≠ f := of_decide_eq_false ub
  have there : ∀ {x : Addr} {o : HO}, H3 x = some o → x ≠ g → True := fun _ _ => trivial
  have gne : ∀ {x : Addr} {o : HO}, Hx x = some o → g ≠ x := fun e z => by rw [← z, hg0] at e; cases e
  have hgf : g ≠ f := gne M.out
  obtain ⟨⟨dxx, hpx⟩, ⟨txx, hax, _⟩, ⟨rxx, hbx, _⟩, _, _⟩ := M.held
  have hga : g ≠ a := gne (dl_some hax).2
  have hgb : g ≠ b := gne (dl_some hbx).2
  refine ⟨_, rfl, _, rfl, _, rfl, p, a, b, g, n, gs, k, rs, rfl, trivial, hd3', tb3, hg3, hga, hgb, hcall, fun zs rs' H4 t a' b' hdue hfr tb4 hst han hbn ht0 ht4 => ?_⟩
  have hd4 : Held K (dl H4 fun c => decide (c = f)) p a' b' rs' := by
    refine hst _ (fun x hx => ?_) (M.held.smtD (Same.t s3) M.tb)
    have := of_decide_eq_true hx
    subst this
    exact ⟨fun z => (by rw [hf3] at z; cases z), fun z => hgf z.symm⟩
  have hf4 : H4 f = some (.lst (acc.map V.int)) := hfr _ _ hf3 (M.tb.ne M.out (by intro _ z; cases z)) npf.symm naf.symm nbf.symm
  have ntf : t ≠ f := fun z => by rw [z, hf3] at ht0; cases ht0
  -- the numbers so far
  have hwhole := hat.whole
  have hnew : PyVacolo.answers l = (acc ++ ((zs.length : Nat) : Int) :: zs) ++ PyFlat.told (PyFlat.played VacoloNeutral.step ⟨rs'.map Loose.record⟩ (cs'.map whole)) := by
    rw [M.eq, List.map_cons, hwhole, told_cons _ _ _ hk, hdue.2, hdue.1, List.append_assoc]
    rfl
  have hlz : acc.length + 1 + zs.length ≤ 10000000 := by
    have := hshort
    rw [hnew] at this
    simp only [List.length_append, List.length_cons] at this
    omega
  refine ⟨_, rfl, .inl ⟨rfl, _, SqL.of hf4⟩, _, rfl, t, _, rfl, .inl (SqL.of ht4), f, _, _, rfl, rfl, hf4, by rw [List.length_map]; omega, ?_⟩
  have ht5 : upd H4 f (.lst (acc.map V.int ++ [V.int ((zs.map V.int).length : Nat)])) t = some (.lst (zs.map V.int)) := by
    rw [upd_ne ntf]
    exact ht4
  refine ⟨_, rfl, .inl ⟨rfl, _, SqL.of upd_same⟩, _, rfl, f, t, _, _, rfl, rfl, upd_same, ht5, by rw [List.length_append, List.length_map, List.length_map, List.length_singleton]; omega, ?_⟩
  rw [upd_upd]
  refine ⟨_, rfl, l.length - j, by omega, p, a', b', f, j, rs', acc ++ ((zs.length : Nat) : Int) :: zs, cs', _, _, _, _, rfl, rfl, ?_⟩
  have h0 : ∀ {x : Addr}, H x = none → H3 x ≠ none → True := fun _ _ => trivial
  have back : ∀ x o, H x = some o → x ≠ Pt K → H4 x = some o := fun x o e z => hfr _ _ (s3 _ _ (M.smt _ _ e z)) z (ne_of_none e M.np) (ne_of_none e M.na) (ne_of_none e M.nb)
  have fr3 : ∀ {x : Addr}, H3 x = none → H x = none := fun {x} e => SmT.fresh M.smt M.tb (Same.fresh s3 e)
  refine ⟨hjl.2, ⟨_, hdec⟩, fun raw hr => M.each raw (List.mem_cons_of_mem _ hr), hnew, ?_, ?_, ?_, ?_, M.np, ?_, ?_, M.nf⟩
  · rw [upd_same, List.map_append, List.map_cons, List.append_assoc, List.length_map]
    rfl
  · refine hd4.same fun x o e => ?_
    obtain ⟨u, v⟩ := dl_some e
    rw [dl_of u, upd_ne (of_decide_eq_false u)]
    exact v
  · exact Tb.kept tb4 fun x o e z1 _ => by
      rw [upd_ne (ne_of e hf4 (z1 _))]
      exact e
  · intro x o e z
    rw [upd_ne (ne_of_none e M.nf)]
    exact back x o e z
  · rcases han with z | z
    · rw [z]
      exact M.na
    · exact fr3 z
  · rcases hbn with z | z
    · rw [z]
      exact M.nb
    · exact fr3 z
end SF
end -- S24

section -- E1
set_option Elab.async false
set_option linter.all false
set_option maxRecDepth 100000
set_option maxHeartbeats 4000000
/-! # E1: the end of a Spec row whose program has one table of code objects -/
namespace SF
open PySem PySem.Spec PyProof.Rows L2
open PySem.W (WData Codec OpenSpec WellAll ReadsW)
open LamX (TabB)
mutual
theorem dw_up {K : PySem.W.Frag} {H H' : Hp} (s : Same H H') : ∀ {v : V} {d : WData}, Dw K H v d → Dw K H' v d
  | _, _, .non => .non
  | _, _, .bl b => .bl b
  | _, _, .int i => .int i
  | _, _, .str x => .str x
  | _, _, .byt b => .byt b
  | _, _, .lst h1 h2 => .lst (s.seq h1) (dws_up s h2)
  | _, _, .tup h1 h2 => .tup (by
      rcases h1 with (h | ⟨o, h⟩) | h
      · exact .inl (.inl (s _ _ h))
      · exact .inl (.inr ⟨o, s _ _ h⟩)
      · exact .inr h) (dws_up s h2)
theorem dws_up {K : PySem.W.Frag} {H H' : Hp} (s : Same H H') : ∀ {vs : List V} {ds : List WData}, DwAll K H vs ds → DwAll K H' vs ds
  | _, _, .nil => .nil
  | _, _, .cons h1 h2 => .cons (dw_up s h1) (dws_up s h2)
end
abbrev tab0 : Obj := { cls := .none, data := .fields #[] }
/-- the arguments and the table -/
def withTab (T : Addr) (H : Hp) : Hp := fun b => if b = T then some (.tbl #[]) else H b
section
variable {P : Program} {w : World} {K : PySem.W.Frag} {A : List Addr} {T : Addr}
theorem wt_at {H : Hp} : withTab T H T = some (.tbl #[]) := if_pos rfl
theorem wt_ne {H : Hp} {b : Addr} (h : b ≠ T) : withTab T H b = H b := if_neg h
theorem arg_free {h : Heap} (ar : ∀ a ∈ A, ArgOb h A a) (hT : h.get? T = some tab0) : argH K h A T = none := by
  cases q : argH K h A T with
  | none => rfl
  | some u =>
    obtain ⟨_, vs, _, _, hh⟩ := argH_is ar q
    rcases hh with ⟨e, _⟩ | ⟨e, _⟩ <;> (rw [hT] at e; cases e)
theorem wt_same {H : Hp} (h : H T = none) : Same H (withTab T H) := fun b o e => by
  rw [wt_ne (ne_of_none e h)]
  exact e
/-- what is tracked is no dict and no module -/
theorem wt_none {h : Heap} (ar : ∀ a ∈ A, ArgOb h A a) (hT : h.get? T = some tab0) {b : Addr} {o : Obj} (e : h.get? b = some o) (h1 : ∀ vs n, o.data ≠ .seq vs n) (h2 : o.data ≠ .fields #[]) : withTab T (argH K h A) b = none := by
  by_cases z : b = T
  · rw [z, hT] at e
    cases e
    exact absurd rfl h2
  · rw [wt_ne z]
    cases q : argH K h A b with
    | none => rfl
    | some u =>
      obtain ⟨_, vs, _, _, hh⟩ := argH_is ar q
      rcases hh with ⟨e', _⟩ | ⟨e', _⟩
      · rw [e'] at e
        cases e
        exact absurd rfl (h1 _ _)
      · rw [e'] at e
        cases e
        exact absurd rfl (h1 _ _)
end
/-- the call -/
theorem tab_call {P : Program} {w : World} {K : PySem.W.Frag} {mg mb : Str → Option Value} {CX : CXT} {k : Nat} {fa c T : Addr} {fd : FuncData} {ps : List Str} {sp : Sp} {s₁ : Shared} {vals : List Value} {ds : List WData} {R : PySem.W.WRecords} {cl : Str → Option Addr} {d0 : WData}
    (KX : K.In s₁.heap) (g0 : s₁.heap.Ns mainGlobals mg) (b0 : s₁.heap.Ns builtinsNs mb) (b1 : ∀ x : Str, x ≠ "__name__" → mb x = bootBuiltins x) (lim : s₁.heap.NoLimit) (gen : s₁.gens = #[])
    (hT : s₁.heap.get? T = some tab0) (nT : K.lookup T = none) (C : PySem.W.CodeHd s₁.heap c T)
    (bm : ∃ (m : Addr) (o : Obj), mg "__builtins__" = some (.ref m) ∧ m ≠ builtinsNs ∧ s₁.heap.get? m = some o ∧ o.cls = .type "module" ∧ o.dict = some builtinsNs ∧ o.data = .plain)
    (wl : WellAll w.params s₁.heap vals ds) (pl : plWs ds = true) (wt : ∀ d ∈ ds, d.weight ≤ 1048576) (hr : Room k callerA)
    (F : ∀ base : Heap, K.In base → base.Ns mainGlobals mg → TabB base mg c T → FnOk P w K mg base CX k fa fd ps sp) (bind : ∀ (s : Shared) (us : List Value), us.length = ps.length → BindsTo s fd ⟨us, []⟩ (ps.zip us)) (len : ds.length = ps.length)
    (hsp : ∀ (H : Hp) (xs : List V), H T = some (.tbl #[]) → DwAll K H xs ds → sp xs H (fun v H' => Dw K H' v d0) fun _ _ _ => False)
    (none : ∀ H e s', CX [] H s₁ (fun _ _ _ => False) e s' → False) :
    codeAny (model P w) callerA (.call (.ref fa) ⟨vals, []⟩) (fun r s' => ∃ u as, r = .ok (.ret u) ∧ ReadsW R cl s'.heap u d0 as ∧ OldK s₁.heap s'.heap ∧ s'.os = s₁.os ∧ AllBare s'.gens) s₁ := by
  obtain ⟨A, okA, ar⟩ := area_all ds vals wl pl wt
  have free := arg_free (K := K) ar hT
  have only := argH_only (K := K) ar
  have args := dws_up (wt_same free) (dw_all KX ar ds vals wl pl okA)
  have away : ∀ b o, K.lookup b = some o → withTab T (argH K s₁.heap A) b = Option.none := fun b o e => by
    have z : b ≠ T := fun z => by
      rw [z, nT] at e
      cases e
    rw [wt_ne z]
    cases q : argH K s₁.heap A b with
    | none => rfl
    | some u =>
      rw [(argH_is ar q).1] at e
      cases e
  have ok1 : HOk P w (withTab T (argH K s₁.heap A)) s₁.heap := fun b u q => by
    by_cases z : b = T
    · rw [z, wt_at] at q
      cases q
      rw [z]
      exact hT
    · rw [wt_ne z] at q
      obtain ⟨_, vs, _, _, hh⟩ := argH_is ar q
      have z2 := argH_ok (P := P) (w := w) ar b u q
      rcases hh with ⟨_, rfl⟩ | ⟨_, rfl⟩ <;> exact z2
  have dict : ∀ {b : Addr} {o : Obj} {es : Array DictEntry} {n : Nat}, s₁.heap.get? b = some o → o.data = .dict es n → withTab T (argH K s₁.heap A) b = Option.none := fun e d =>
    wt_none ar hT e (fun vs n z => by rw [d] at z; cases z) fun z => by rw [d] at z; cases z
  have only' : ∀ b, withTab T (argH K s₁.heap A) b = Option.none ∨ b = T ∨ ∃ o u, withTab T (argH K s₁.heap A) b = some (.frz o u) := fun b => by
    by_cases z : b = T
    · exact .inr (.inl z)
    · rw [wt_ne z]
      rcases only b with q | ⟨o, u, q⟩
      · exact .inl q
      · exact .inr (.inr ⟨o, u, q⟩)
  have atT : withTab T (argH K s₁.heap A) T = some (.tbl #[]) := wt_at
  have code : withTab T (argH K s₁.heap A) c = Option.none := by
    obtain ⟨o, us, _, _, _, _, _, _, _, e1, _, r2, r3, _⟩ := C
    refine wt_none ar hT e1 (fun vs n z => ?_) fun z => ?_
    · rw [r2] at z
      cases z
    · rw [r2] at z
      cases z
      simp at r3
  have modl : ∀ {b : Addr} {o : Obj}, s₁.heap.get? b = some o → o.data = .plain → withTab T (argH K s₁.heap A) b = Option.none := fun e d =>
    wt_none ar hT e (fun vs n z => by rw [d] at z; cases z) fun z => by rw [d] at z; cases z
  generalize withTab T (argH K s₁.heap A) = H at args away ok1 dict only' atT code modl
  have ns : ∀ {b : Addr} {m : Str → Option Value}, s₁.heap.Ns b m → (hidT s₁.heap H).Ns b m := fun ⟨o, es, n, e, d, rest⟩ => ⟨o, es, n, hidT_get e (dict e d), d, rest⟩
  have KB : K.In (hidT s₁.heap H) := fun b o e => hidT_get (KX b o e) (away b o e)
  have notG : mainGlobals ≠ T := fun z => by
    obtain ⟨o, es, n, e, d, _⟩ := g0
    rw [z, hT] at e
    cases e
    cases d
  have tabs : TabB (hidT s₁.heap H) mg c T := by
    refine ⟨?_, ?_, notG⟩
    · obtain ⟨o, us, file, tf, flags, tg, inF, text, tt, e1, rest⟩ := C
      exact ⟨o, us, file, tf, flags, tg, inF, text, tt, hidT_get e1 code, rest⟩
    · obtain ⟨m, o, m1, m2, m3, m4, m5, m6⟩ := bm
      refine ⟨m, o, m1, m2, fun z => ?_, fun z => ?_, hidT_get m3 (modl m3 m6), m4, m5, m6⟩
      · obtain ⟨o', es, n, e, d, _⟩ := g0
        rw [z, e] at m3
        cases m3
        rw [d] at m6
        cases m6
      · rw [z, hT] at m3
        cases m3
        cases m6
  have st : Env0 P w K mg (hidT s₁.heap H) callerA [] s₁ H :=
    { frames := rfl, mod := ⟨KB, ns g0, ⟨mb, ns b0, b1⟩, by obtain ⟨mc, l1, l2⟩ := lim; exact ⟨mc, ns l1, l2⟩⟩, bs := fun b o e => of_hidT e, bsz := Nat.le_of_eq (hidT_size _ _), funs := trivial, frf := fun b z => absurd (show b ∈ ([] : List Addr) from z) (by simp), hok := ok1, bare := .of_eq gen }
  have vl : vals.length = ps.length := (wellAll_len wl).trans len
  refine codeAny_mono ((F _ KB (ns g0) tabs).run callerA [] s₁ H ⟨vals, []⟩ vals (vals.map toV) _ _ hr st (bind s₁ vals vl) (vals_toV okA) (hsp H _ atT args)) fun r s' x => ?_
  cases r with
  | error e => exact (none H e s' x).elim
  | ok fl =>
    cases fl with
    | next => exact False.elim x
    | brk => exact False.elim x
    | cont => exact False.elim x
    | ret u =>
      obtain ⟨v, H', os, bare, un, ok2, rv, q⟩ := x
      have kept : ∀ b o, b ≠ T → s₁.heap.get? b = some o → s'.heap.get? b = some o := fun b o z e => by
        rcases only' b with q1 | q1 | ⟨ob, u1, q1⟩
        · exact un.keep b o e q1 (by intro y; exact absurd (show b ∈ ([] : List Addr) from y) (by simp)) (by simp)
        · exact absurd q1 z
        · obtain ⟨y1, _⟩ := ok1 b _ q1
          obtain ⟨y2, _⟩ := ok2 b _ (un.frzs b ob _ q1)
          rw [e] at y1
          cases y1
          exact y2
      obtain ⟨more, gr⟩ := un.tbls T #[] atT
      have grT : s'.heap.get? T = some { cls := .none, data := .fields (#[] ++ more) } := ok2 T _ gr
      have KX' : K.In s'.heap := fun b o e => kept b o (fun z => by rw [z, nT] at e; cases e) (KX b o e)
      obtain ⟨as, rd⟩ := Dw.reads (R := R) (cl := cl) ok2 KX' d0 v u q rv
      refine ⟨u, as, rfl, rd, ⟨fun b o e => ?_, fun b o e => ?_⟩, os, bare⟩
      · by_cases z : b = T
        · rw [z, hT] at e
          cases e
          rw [z]
          exact .inr (.inl ⟨(C.tab hT).isCodeTable, rfl, #[], more, rfl, grT⟩)
        · exact .inl (kept b o z e)
      · by_cases z : b = T
        · rw [z]
          exact ⟨_, grT⟩
        · exact ⟨o, kept b o z e⟩
/-- the row -/
theorem walk_tab {r : OpenSpec} {k : Nat} {q : Program} {loose : List Str} {XP : (Str → Option Value) → Heap → Prop} {YP : World → Heap → Prop} {d : DefRec} {CX : World → CXT} {ps : List Str}
    (well : r.wellSaid = true) (hdf : d.params.defaults = []) (len : r.args.length = ps.length) (hr : Room k callerA)
    (F : ∀ (w : World) (mg : Str → Option Value) (fa : Addr) (h : Heap), YP w h → h.Ns mainGlobals mg → mg d.name = some (.ref fa) → ∃ (K : PySem.W.Frag) (fd : FuncData) (c T : Addr) (sp : Sp), K.In h ∧ h.get? T = some tab0 ∧ K.lookup T = none ∧ PySem.W.CodeHd h c T ∧
      (∀ (s : Shared) (us : List Value), us.length = ps.length → BindsTo s fd ⟨us, []⟩ (ps.zip us)) ∧
      (∀ (H : Hp) (xs : List V) (a : Codec.denoteAll r.args), H T = some (.tbl #[]) → Codec.withinAll r.args a = true → Codec.app r.args r.asked a = true → DwAll K H xs (Codec.encAll r.args a) → sp xs H (fun v H' => Dw K H' v (r.ret.enc (Codec.app r.args r.f a))) fun _ _ _ => False) ∧
      ∀ base : Heap, K.In base → base.Ns mainGlobals mg → TabB base mg c T → FnOk r.prog w K mg base (CX w) k fa fd ps sp)
    (none : ∀ (w : World) (H : Hp) (s : Shared) (e : Value) (s' : Shared), CX w [] H s (fun _ _ _ => False) e s' → False) :
    PySem.W.WalkOS q loose XP YP r d [] (fun f vs => PySem.call f vs) := by
  intro w s₀ s₁ mg mb G Y fa o pm cd doc dV kV ho hd hcd hD hmg hg args vals as pre lay rd wl lo
  obtain ⟨a, e1, ask⟩ := PySem.W.os_pre_some pre
  obtain ⟨e3, inn⟩ := Codec.encAll_of_decAll r.args args a e1
  subst e3
  obtain ⟨K, fd, c, T, sp, KX, hT, nT, C, hb, hsp, hF⟩ := F w mg fa _ Y G.T.g hmg
  have run := tab_call (R := []) (cl := classAt s₀.heap) (d0 := r.ret.enc (Codec.app r.args r.f a)) KX G.T.g G.T.b G.T.builtins G.T.nolimit hg hT nT C G.T.bmain wl (pl_encAll _ _) (layable_weight lay) hr hF hb ((encAll_len _ _).trans len) (fun H xs h1 h2 => hsp H xs a h1 inn ask h2) fun H e s' => none w H s₁ e s'
  refine PySem.W.enter_call (codeAny_mono run fun r' s' x => ?_)
  obtain ⟨u, as', rfl, h1, h2, h3, h4⟩ := x
  refine ⟨.inl ⟨u, _, as', rfl, fun _ => rfl, h1, ?_, fun z => Bool.noConfusion (show false = true from z)⟩, h2, h3, h4⟩
  exact (OpenSpec.post_iff well inn _ _).mpr rfl
end SF
end -- E1

section -- E2
set_option Elab.async false
set_option linter.all false
set_option maxRecDepth 100000
set_option maxHeartbeats 4000000
/-! # E2: what the head tells of the text -/
namespace SF
open PySem PySem.Spec PyProof.Rows L2
open LamX (TabB)
/-- an own error class over ValueError -/
def oexB (K : PySem.W.Frag) (C : Addr) : Bool := (match K.lookup C with
    | some ⟨.type "type", _, .cls cd, sl⟩ => (match cd.mro, sl.toList with
      | .ref D :: bm, [_, _, _, _, some (.builtin n), _] => decide (D = C) && (decide (n = "ValueError.__new__") && (!cd.hasDel && (cd.hasDict && PySem.HandSPX.refsVE bm)))
      | _, _ => false)
    | _ => false) && (decide (PySem.W.findIn K (.ref C) "__setattr__" = some (some (.builtin "object.__setattr__"))) && (decide (PySem.W.subIn K (.ref C) (.type "BaseException") = some true) && (decide (PySem.W.typeIn K (.ref C) = some (.type "type")) && PySem.W.keepIn K (.ref C))))
theorem oexB_ok {K : PySem.W.Frag} {C : Addr} (h : oexB K C = true) : OexC K C := by
  obtain ⟨h1, h⟩ := Bool.and_eq_true_iff.mp h
  obtain ⟨h2, h⟩ := Bool.and_eq_true_iff.mp h
  obtain ⟨h3, h⟩ := Bool.and_eq_true_iff.mp h
  obtain ⟨h4, h5⟩ := Bool.and_eq_true_iff.mp h
  refine ⟨?_, of_decide_eq_true h2, of_decide_eq_true h3, of_decide_eq_true h4, h5⟩
  split at h1
  · rename_i dd cd sl ho
    split at h1
    · rename_i D bm k0 k1 k2 k3 n k5 hm hs
      simp only [Bool.and_eq_true, decide_eq_true_eq, Bool.not_eq_true'] at h1
      obtain ⟨rfl, rfl, hdel, hdict, hve⟩ := h1
      obtain ⟨nm, bs, mro, ns, qn, hd, sn, sub, ab, col, del⟩ := cd
      dsimp only at hm hdel hdict
      subst hm hdel hdict
      have hsl : sl = #[k0, k1, k2, k3, some (.builtin "ValueError.__new__"), k5] := by
        obtain ⟨l⟩ := sl
        simp only at hs
        rw [hs]
      subst hsl
      exact ⟨nm, qn, ns, bs, bm, sn, sub, ab, col, dd, k0, k1, k2, k3, k5, ho, hve⟩
    · cases h1
  · cases h1
def excB (K : PySem.W.Frag) (x : Str) : Bool := oexB K (He.ga K x) && (xfB K (He.ga K x) && (decide (PySem.W.findIn K (.ref (He.ga K x)) "__init__" = some (some (.ref (He.ma K (He.ga K x) "__init__")))) && (decide (PySem.W.typeIn K (.ref (He.ma K (He.ga K x) "__init__")) = some (.type "function")) && decide (PySem.W.exmOne K (.ref (He.ga K x)) (.ref (He.ga K x)) = some true))))
def dvN : List He.Dv := [0, 0, 0, 0, 1, 0, 0, 1, 0].map He.Dv.int
def dvL : List He.Dv := [1, 1, 1, 0, 0, 0, 1, 0, 0].map He.Dv.int
def exS (K : PySem.W.Frag) : Bool := excB K "Fault" && (excB K "Clash" && (He.tupB K "NUMBERS" dvN && He.tupB K "LISTS" dvL))
def faS : List He.Fa := gNames.map He.Fa.glo ++ (fNames.map He.Fa.free ++ (iNames.map (fun p => He.Fa.int p.1 p.2) ++ ((["Reader", "Kind", "Rows"] : List Str).map He.Fa.cls ++ ((["Reader", "Kind", "Rows"] : List Str).map He.Fa.mkr ++ (aNames.map (fun p => He.Fa.noat p.1 p.2) ++ (mNames.map (fun p => He.Fa.meth p.1 p.2) ++ (["NUMBERS", "LISTS"] : List Str).map He.Fa.glo))))))
def toD (d : DefT) : He.DefD := ⟨d.at_, d.name, d.qual, defArgs d.st, defBody d.st, defScope d.st, [], []⟩
def fnS : List He.DefD := (defsA ++ (defsB ++ defsC)).map toD
abbrev SaysS (w : World) (h : Heap) (K : PySem.W.Frag) : Prop := He.SaysX faS fnS [] [dStr] exS w h K
theorem funOf {K : PySem.W.Frag} {d : DefT} (h : ∃ fd, FunD K d.name d.qual (defArgs d.st) (defBody d.st) (defScope d.st) [] [] (He.fAd K d.at_) fd) : ∃ fd, Fun K d.name d.qual d.st (He.fAd K d.at_) fd := by
  obtain ⟨fd, F⟩ := h
  obtain ⟨oc, od, dV, kV, doc, pm, an, cdv, ct, osl, e1, e2, e3, e4, e5⟩ := F.ex
  rcases e4 with ⟨_, rfl⟩ | ⟨z, _⟩
  · exact ⟨fd, ⟨oc, od, kV, doc, pm, an, cdv, ct, osl, e1, e2, e3⟩, F.kp⟩
  · exact absurd rfl z
theorem excB_ok {K : PySem.W.Frag} {x : Str} (h : excB K x = true) : OexC K (He.ga K x) ∧ XfC K (He.ga K x) ∧ PySem.W.findIn K (.ref (He.ga K x)) "__init__" = some (some (.ref (He.ma K (He.ga K x) "__init__"))) ∧
    PySem.W.typeIn K (.ref (He.ma K (He.ga K x) "__init__")) = some (.type "function") ∧ PySem.W.exmOne K (.ref (He.ga K x)) (.ref (He.ga K x)) = some true := by
  obtain ⟨h1, h⟩ := Bool.and_eq_true_iff.mp h
  obtain ⟨h2, h⟩ := Bool.and_eq_true_iff.mp h
  obtain ⟨h3, h⟩ := Bool.and_eq_true_iff.mp h
  obtain ⟨h4, h5⟩ := Bool.and_eq_true_iff.mp h
  exact ⟨oexB_ok h1, xfB_ok h2, of_decide_eq_true h3, of_decide_eq_true h4, of_decide_eq_true h5⟩
theorem txt_of {w : World} {K : PySem.W.Frag} {h : Heap} {mg : Str → Option Value} (X : K.In h) (G : h.Ns mainGlobals mg) (c : SaysS w h K) : Txt K mg := by
  have cd : He.SaysD faS fnS K := c.t.d
  obtain ⟨x1, x⟩ := Bool.and_eq_true_iff.mp (show (excB K "Fault" && (excB K "Clash" && (He.tupB K "NUMBERS" dvN && He.tupB K "LISTS" dvL))) = true from c.more)
  obtain ⟨x2, x⟩ := Bool.and_eq_true_iff.mp x
  obtain ⟨x3, x4⟩ := Bool.and_eq_true_iff.mp x
  refine ⟨fun x hx => ?_, fun x hx => ?_, fun p hp => ?_, fun x hx => ⟨?_, ?_⟩, fun p hp => ?_, fun p hp => ?_, fun x hx => ?_, fun d hd => ?_, ?_, ?_⟩
  · exact He.glo_ok X G (cd.facts (f := .glo x) (List.mem_append_left _ (List.mem_map_of_mem hx)))
  · exact He.free_ok X G (cd.facts (f := .free x) (List.mem_append_right _ (List.mem_append_left _ (List.mem_map_of_mem hx))))
  · exact He.int_ok X G (cd.facts (f := .int p.1 p.2) (List.mem_append_right _ (List.mem_append_right _ (List.mem_append_left _ (List.mem_map.mpr ⟨p, hp, rfl⟩)))))
  · exact He.cls_ok (cd.facts (f := .cls x) (List.mem_append_right _ (List.mem_append_right _ (List.mem_append_right _ (List.mem_append_left _ (List.mem_map_of_mem hx))))))
  · exact He.mkr_ok (cd.facts (f := .mkr x) (List.mem_append_right _ (List.mem_append_right _ (List.mem_append_right _ (List.mem_append_right _ (List.mem_append_left _ (List.mem_map_of_mem hx)))))))
  · exact He.noat_ok (cd.facts (f := .noat p.1 p.2) (List.mem_append_right _ (List.mem_append_right _ (List.mem_append_right _ (List.mem_append_right _ (List.mem_append_right _ (List.mem_append_left _ (List.mem_map.mpr ⟨p, hp, rfl⟩))))))))
  · exact He.meth_ok (cd.facts (f := .meth p.1 p.2) (List.mem_append_right _ (List.mem_append_right _ (List.mem_append_right _ (List.mem_append_right _ (List.mem_append_right _ (List.mem_append_right _ (List.mem_append_left _ (List.mem_map.mpr ⟨p, hp, rfl⟩)))))))))
  · rcases List.mem_cons.mp hx with z | z
    · subst z
      exact excB_ok x1
    · rw [List.mem_singleton.mp z]
      exact excB_ok x2
  · exact funOf (cd.defs (d := toD d) (List.mem_map_of_mem hd))
  · have g : mg "NUMBERS" = some (.ref (He.ga K "NUMBERS")) := He.glo_ok X G (cd.facts (f := .glo "NUMBERS") (List.mem_append_right _ (List.mem_append_right _ (List.mem_append_right _ (List.mem_append_right _ (List.mem_append_right _ (List.mem_append_right _ (List.mem_append_right _ (List.mem_map_of_mem (by decide +kernel))))))))))
    exact ⟨_, g, fun H => He.tupB_ok x3 H⟩
  · have g : mg "LISTS" = some (.ref (He.ga K "LISTS")) := He.glo_ok X G (cd.facts (f := .glo "LISTS") (List.mem_append_right _ (List.mem_append_right _ (List.mem_append_right _ (List.mem_append_right _ (List.mem_append_right _ (List.mem_append_right _ (List.mem_append_right _ (List.mem_map_of_mem (by decide +kernel))))))))))
    exact ⟨_, g, fun H => He.tupB_ok x4 H⟩
end SF
end -- E2

section -- E3
set_option Elab.async false
set_option linter.all false
set_option maxRecDepth 100000
set_option maxHeartbeats 0
/-! # E3: the top, run once -/
namespace SF
open PySem PySem.Spec PyProof.Rows L2
abbrev RS : PySem.W.OpenSpec := PySem.Challenge.rw_schemafinder_s01_answers
abbrev hkS : PySem.W.Hook := He.hookX 6 faS fnS [] [dStr] exS
def obS (s : PySem.W.SharedT) : He.AlX := He.obsX 6 faS fnS [] [dStr] exS (HandSHeadRun.getT s)
theorem obS_eq (s : PySem.W.SharedT) : obS s = hkS.obs s.abs := He.obsX_eq (HandSHeadRun.getT_eq s)
def looseS : List Str := iNames.map (·.1) ++ (gNames.filter (fun x => !(x == ("answers" : Str))) ++ (["NUMBERS", "LISTS"] : List Str))
theorem run_top (w : World) : HandSHeadRun.RunEqS RS (PySem.W.view RS.prog [67]) hkS obS 6000 looseS w := by
  intro os
  kernel_rfl
end SF
end -- E3

section -- E4
set_option Elab.async false
set_option linter.all false
set_option maxRecDepth 100000
set_option maxHeartbeats 8000000
/-! # E4: the end -/
namespace SF
open PySem PySem.Spec PyProof.Rows L2
open LamX (TabB)
theorem end_facts {P : Program} {w : World} {h : Heap} {mg : Str → Option Value} {fa : Addr} (G : h.Ns mainGlobals mg) (hfa : mg "answers" = some (.ref fa)) (Y : hkS.says w h) :
    ∃ (K : PySem.W.Frag) (fd : FuncData) (c T : Addr) (sp : Sp), K.In h ∧ h.get? T = some tab0 ∧ K.lookup T = none ∧ PySem.W.CodeHd h c T ∧
      (∀ (s : Shared) (us : List Value), us.length = (["calls"] : List Str).length → BindsTo s fd ⟨us, []⟩ ((["calls"] : List Str).zip us)) ∧
      (∀ (H : Hp) (xs : List V) (a : PySem.W.Codec.denoteAll RS.args), H T = some (.tbl #[]) → PySem.W.Codec.withinAll RS.args a = true → PySem.W.Codec.app RS.args RS.asked a = true → DwAll K H xs (PySem.W.Codec.encAll RS.args a) → sp xs H (fun v H' => Dw K H' v (RS.ret.enc (PySem.W.Codec.app RS.args RS.f a))) fun _ _ _ => False) ∧
      ∀ base : Heap, K.In base → base.Ns mainGlobals mg → TabB base mg c T → FnOk P w K mg base CX0 54 fa fd ["calls"] sp := by
  obtain ⟨K, X, c⟩ := Y
  have T := txt_of X G c
  obtain ⟨fd, F⟩ := T.defs ⟨("answers", none), "answers", "answers", s_answers⟩ (List.mem_append_right _ (List.mem_append_right _ (List.mem_of_getElem? (i := 14) rfl)))
  have ga : mg "answers" = some (.ref (He.ga K "answers")) := T.glo "answers" (by decide +kernel)
  have e := hfa.symm.trans ga
  cases e
  have hd := c.hd dStr List.mem_cons_self
  have hout := c.out dStr List.mem_cons_self
  have hem := c.empty dStr List.mem_cons_self
  refine ⟨K, fd, (He.cT K dStr).1, (He.cT K dStr).2, spAnswers K, X, hem, hout, PySem.W.codeHd_of_K X hd, ?_, ?_, fun base _ _ TB => fn_answers F T TB⟩
  · obtain ⟨oc, od, kV, doc, pm, an, cdv, ct, osl, rfl, lk, hcd⟩ := F.ex
    exact fun s us hu => match us, hu with | [_], _ => .of_eq rfl
  · intro H xs a hT hin hask hx
    cases hx with
    | cons h1 h2 =>
      cases h2
      cases h1 with
      | lst hs ha =>
        have e := ints_dw a.1 _ ha
        subst e
        refine ⟨_, a.1, rfl, hs, ⟨#[], hT, ?_, fun pos cv z => ?_⟩, hask, fun H' f _ _ _ hf => .lst (SqL.of hf) (dw_ints _)⟩
        · trivial
        · cases z
end SF
open PySem PySem.W PySem.Calls PyProof.Rows
theorem PySem.Challenge.cw_schemafinder_s01_answers_holds : PySem.Challenge.rw_schemafinder_s01_answers.Holds := by
  w_on
  refine HandSHeadRun.head_spec (r := SF.RS) (q := view SF.RS.prog [67]) (H := SF.hkS) (ob := SF.obS) (M := 6000) (loose := SF.looseS) (d := HandSHeadRun.topDef SF.RS.prog 67) (kwd := []) SF.obS_eq
    (by kernel_rfl) (fun s => by kernel_rfl) SF.run_top (by kernel_rfl) (by kernel_rfl) (by kernel_rfl) os_shapes (by first | assumption | decide +kernel) (by decide +kernel) ⟨rfl, rfl, rfl, rfl, rfl, by decide +kernel⟩ ?hw ?hc
  case hw => exact ⟨[.list [.int 3]], by decide +kernel, by decide +kernel⟩
  case hc =>
    refine SF.walk_tab (r := SF.RS) (k := 54) (CX := fun _ => L2.CX0) (ps := ["calls"]) (by decide +kernel) (by kernel_rfl) rfl ⟨rfl, by decide, by decide⟩ ?F (fun _ _ _ _ _ z => z)
    intro w mg fa h Y G hmg0
    have hmg : mg ("answers" : PySem.Str) = some (.ref fa) := by
      have e : (HandSHeadRun.topDef SF.RS.prog 67).name = ("answers" : PySem.Str) := by kernel_rfl
      rw [← e]
      exact hmg0
    exact SF.end_facts G hmg Y
#print axioms PySem.Challenge.cw_schemafinder_s01_answers_holds
end -- E4
