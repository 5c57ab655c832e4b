/- Part 2 of a proof: RefLaws, Line, Iter, Split, Chunk, Number, Names, Numbers -/
import Derived.Test.YtfiacgkhkonilaaGreatDoorBackPart1
import Derived.Test.YtfiacgkhkonilaaGreatDoorPNamex1
import Derived.Test.YtfiacgkhkonilaaGreatDoorPdigitx1
import Derived.Test.YtfiacgkhkonilaaGreatDoorPNumberx1
import Derived.Test.YtfiacgkhkonilaaGreatDoorPwordsx1
import Derived.Test.YtfiacgkhkonilaaGreatDoorPDigitsx1
import Derived.Lib.Join
import Derived.RangeFuncNested
import Derived.RangeFuncBound
import Derived.RangeFuncCalls
import Derived.RangeFuncLeaves
import Derived.WalkKit
import Derived.OwnWalkIn
import Derived.TacticsInMore
import Derived.LoopNIn
import Derived.LoopIn
import Derived.Shelf.RegionOpen
import Derived.Test.YtfiacgkhkonilaaGreatDoorWWords
import Derived.Lib.Hide
import Derived.Test.YtfiacgkhkonilaaGreatDoorWMore
import Derived.Sort.BigQuietIn
import Derived.Sort.QuietIn
import Derived.Deep.LoopGhost
import Derived.OwnWalk
import Derived.Maps.Range
/- The document's small functions, as printed, in the words of the plain definitions; no walk. -/
namespace Go.Proofs.YtfiacgkhkonilaaGreatDoor
open Go Go.RowKit Go.Lib Go.Proofs.YtfiacgkhkonilaaGreatDoorW.PrintWords
open Go.Proofs.YtfiacgkhkonilaaGreatDoor.PName Go.Proofs.YtfiacgkhkonilaaGreatDoor.Pdigit Go.Proofs.YtfiacgkhkonilaaGreatDoor.PNumber Go.Proofs.YtfiacgkhkonilaaGreatDoor.Pwords

theorem bt_nat (s : ByteArray) (k : Nat) (h : k < s.size) : bt s (k : Int) = ((s.data.toList.getD k 0).toNat : Int) := by
  unfold bt
  rw [dif_pos (by rw [Int.toNat_natCast]; exact h)]
  have hsz := size_eq s
  rw [List.getD_eq_getElem?_getD, List.getElem?_eq_getElem (by omega), Option.getD_some]
  simp [ByteArray.getElem_eq_getElem_data]
theorem wrap_in (x : Int) (h : -9223372036854775808 ≤ x ∧ x ≤ 9223372036854775807) : wrap64 x = x := by unfold wrap64; omega
theorem wrap_succ (k : Nat) (h : k < 9223372036854775807) : wrap64 ((k : Int) + 1) = ((k + 1 : Nat) : Int) := by rw [wrap_in]; omega; omega
theorem drop_cons' (l : B) (k : Nat) (h : k < l.length) : l.drop k = l.getD k 0 :: l.drop (k + 1) := by
  rw [List.drop_eq_getElem_cons h, List.getD_eq_getElem?_getD, List.getElem?_eq_getElem h, Option.getD_some]

/-! ### Name -/
def small (c : UInt8) : Bool := decide (97 ≤ c.toNat) && decide (c.toNat ≤ 122)
theorem name_false (s : ByteArray) (m : Nat) (i : Int) : radomeref40_Name.l0 (m + 1) s false i = some false := by
  unfold radomeref40_Name.l0
  split
  · rw [if_neg (by simp)]
  · rfl
theorem name_loop (s : ByteArray) (hs : s.size ≤ 16) : ∀ (m k : Nat), k ≤ s.size → s.size - k < m → radomeref40_Name.l0 (m + 1) s true k = some ((s.data.toList.drop k).all small)
  | 0, k, _, h => absurd h (Nat.not_lt_zero _)
  | m + 1, k, hk, h => by
    have hsz := size_eq s
    unfold radomeref40_Name.l0
    by_cases h1 : k < s.size
    · rw [if_pos (by omega), if_pos rfl, if_pos (by omega), bt_nat s k h1, drop_cons' _ _ (by omega), List.all_cons, wrap_succ k (by omega)]
      by_cases h2 : 97 ≤ (s.data.toList.getD k 0).toNat
      · rw [if_pos (by omega)]
        by_cases h3 : (s.data.toList.getD k 0).toNat ≤ 122
        · rw [decide_eq_true (by omega), name_loop s hs m (k + 1) (by omega) (by omega)]
          simp only [small, decide_eq_true h2, decide_eq_true h3, Bool.and_self, Bool.true_and]
        · rw [decide_eq_false (by omega), name_false]
          simp only [small, decide_eq_false h3, Bool.and_false, Bool.false_and]
      · rw [if_neg (by omega), name_false]
        simp only [small, decide_eq_false h2, Bool.false_and]
    · rw [if_neg (by omega), List.drop_eq_nil_of_le (by omega)]
      rfl
theorem name_law (s : ByteArray) : radomeref40_Name.f 20 s = some (isName s.data.toList) := by
  have hsz := size_eq s
  unfold radomeref40_Name.f isName
  by_cases h1 : 1 ≤ s.size
  · rw [if_pos (by omega)]
    unfold radomeref40_Name.j0
    show radomeref40_Name.l0 (18 + 1) s _ 0 = _
    rw [decide_eq_true (show 1 ≤ s.data.toList.length by omega)]
    by_cases h2 : s.size ≤ 16
    · rw [decide_eq_true (by omega), decide_eq_true (show s.data.toList.length ≤ 16 by omega)]
      have := name_loop s h2 18 0 (by omega) (by omega)
      rw [show ((0 : Nat) : Int) = 0 from rfl] at this
      rw [this]; rfl
    · rw [decide_eq_false (by omega), decide_eq_false (show ¬ s.data.toList.length ≤ 16 by omega), name_false]; rfl
  · rw [if_neg (by omega)]
    unfold radomeref40_Name.j0
    show radomeref40_Name.l0 (18 + 1) s _ 0 = _
    rw [name_false, decide_eq_false (show ¬ 1 ≤ s.data.toList.length by omega)]; rfl

/-! ### digit -/
theorem digit_law (c : UInt8) : radomeref40_digit.f 20 (c.toNat : Int) = some (hexVal c) := by
  have h : ∀ n : Nat, n < 256 → radomeref40_digit.f 20 (n : Int) = some (hexVal (UInt8.ofNat n)) := by decide +kernel
  have := h c.toNat c.toNat_lt
  rwa [UInt8.ofNat_toNat] at this

/-! ### Number -/
def ans : Option Int → Int × Bool
  | some v => (v, true)
  | none => (0, false)
def fin (minus : Bool) (v : Nat) : Option Int := if 9223372036854775808 < v ∨ (v = 9223372036854775808 ∧ minus = false) then none else some (if minus then -(v : Int) else v)
theorem number_end (minus : Bool) (m v : Nat) (hv : v < 18446744073709551616) :
    (if (v : Int) > 9223372036854775808 then (radomeref40_Number.j4 (m + 1) minus v true) else (if (v : Int) = 9223372036854775808 then (radomeref40_Number.j4 (m + 1) minus v (!minus)) else (radomeref40_Number.j4 (m + 1) minus v false))) = some (ans (fin minus v)) := by
  have hj : ∀ b, radomeref40_Number.j4 (m + 1) minus v b = if b = true then (some (0, false)) else (if minus = true then (some (wrap64 (IntKind.u64.wrap (-(v : Int))), true)) else (some (wrap64 (v : Int), true))) := fun b => by unfold radomeref40_Number.j4; rfl
  have hneg : v ≤ 9223372036854775808 → wrap64 (IntKind.u64.wrap (-(v : Int))) = -(v : Int) := fun h => by
    rw [IntKind.wrap_u64]; unfold wrap64; omega
  by_cases h1 : 9223372036854775808 < v
  · have e : fin minus v = none := by unfold fin; rw [if_pos (Or.inl h1)]
    rw [if_pos (by omega), hj, if_pos rfl, e]; rfl
  · rw [if_neg (by omega)]
    by_cases h2 : v = 9223372036854775808
    · rw [if_pos (by omega), hj]
      cases minus
      · have e : fin false v = none := by unfold fin; rw [if_pos (Or.inr ⟨h2, rfl⟩)]
        rw [e]; rfl
      · have e : fin true v = some (-(v : Int)) := by
          unfold fin; rw [if_neg]; rfl
          rintro (h | ⟨_, h⟩)
          · exact h1 h
          · cases h
        rw [if_neg (by simp), if_pos rfl, hneg (by omega), e]; rfl
    · rw [if_neg (by omega), hj, if_neg (by simp)]
      have e : fin minus v = some (if minus then -(v : Int) else v) := by
        unfold fin; rw [if_neg]
        rintro (h | ⟨h, _⟩)
        · exact h1 h
        · exact h2 h
      rw [e]
      cases minus
      · rw [if_neg (by simp), wrap_in _ (by omega)]; rfl
      · rw [if_pos rfl, hneg (by omega)]; rfl
theorem allDig_take (l : B) (k : Nat) (h : allDig l = true) : allDig (l.take k) = true := by
  unfold allDig at *
  rw [List.all_eq_true] at *
  exact fun x hx => h x (List.mem_of_mem_take hx)
theorem number_loop (minus : Bool) (t : ByteArray) (hs : t.size ≤ 19) : ∀ (m k : Nat), k ≤ t.size → t.size - k < m → allDig (t.data.toList.take k) = true →
    radomeref40_Number.l0 (m + 1) minus t (dval 0 (t.data.toList.take k) : Nat) k = some (if allDig (t.data.toList.drop k) = true then ans (fin minus (dval 0 t.data.toList)) else (0, false))
  | 0, k, _, h, _ => absurd h (Nat.not_lt_zero _)
  | m + 1, k, hk, h, ha => by
    have hsz := size_eq t
    have hlt := dval_lt _ ha
    have hlen : (t.data.toList.take k).length = k := by rw [List.length_take]; omega
    rw [hlen] at hlt
    unfold radomeref40_Number.l0
    by_cases h1 : k < t.size
    · have htk : t.data.toList.take (k + 1) = t.data.toList.take k ++ [t.data.toList.getD k 0] := by
        rw [List.take_succ_eq_append_getElem (by omega), List.getD_eq_getElem?_getD, List.getElem?_eq_getElem (by omega), Option.getD_some]
      rw [if_pos (by omega), if_pos (by omega), bt_nat t k h1, drop_cons' _ _ (by omega)]
      have hd : allDig (t.data.toList.getD k 0 :: t.data.toList.drop (k + 1)) = (isDig (t.data.toList.getD k 0) && allDig (t.data.toList.drop (k + 1))) := rfl
      rw [hd]
      by_cases h2 : (t.data.toList.getD k 0).toNat < 48
      · rw [if_pos (by omega)]
        have : isDig (t.data.toList.getD k 0) = false := by simp only [isDig, decide_eq_false (show ¬ 48 ≤ (t.data.toList.getD k 0).toNat by omega), Bool.false_and]
        rw [this]; rfl
      · rw [if_neg (by omega)]
        by_cases h3 : 57 < (t.data.toList.getD k 0).toNat
        · rw [if_pos (by omega)]
          have : isDig (t.data.toList.getD k 0) = false := by simp only [isDig, decide_eq_false (show ¬ (t.data.toList.getD k 0).toNat ≤ 57 by omega), Bool.and_false]
          rw [this]; rfl
        · rw [if_neg (by omega)]
          have hdg : isDig (t.data.toList.getD k 0) = true := by simp only [isDig, decide_eq_true (show 48 ≤ (t.data.toList.getD k 0).toNat by omega), decide_eq_true (show (t.data.toList.getD k 0).toNat ≤ 57 by omega), Bool.and_self]
          have ha2 : allDig (t.data.toList.take (k + 1)) = true := by
            rw [htk]; unfold allDig at *; rw [List.all_append, ha, List.all_cons, hdg]; rfl
          have hpow : 10 ^ k ≤ 1000000000000000000 := by
            have := Nat.pow_le_pow_right (n := 10) (by omega) (show k ≤ 18 by omega)
            have e : (10 : Nat) ^ 18 = 1000000000000000000 := by decide
            omega
          have hv : IntKind.u64.wrap (IntKind.u64.wrap (10 * ((dval 0 (t.data.toList.take k) : Nat) : Int)) + ((((t.data.toList.getD k 0).toNat : Int) - 48) % 256)) = ((dval 0 (t.data.toList.take (k + 1)) : Nat) : Int) := by
            rw [htk, dval_app, dval_cons, dval_nil, IntKind.wrap_u64, IntKind.wrap_u64]
            have := (t.data.toList.getD k 0).toNat_lt
            omega
          rw [hv, wrap_succ k (by omega), number_loop minus t hs m (k + 1) (by omega) (by omega) ha2, hdg, Bool.true_and]
    · have hk2 : k = t.size := by omega
      have e : t.data.toList.take k = t.data.toList := List.take_of_length_le (by omega)
      rw [e] at ha hlt ⊢
      rw [if_neg (by omega), List.drop_eq_nil_of_le (by omega)]
      have hpow : 10 ^ k ≤ 10000000000000000000 := by
        have := Nat.pow_le_pow_right (n := 10) (by omega) (show k ≤ 19 by omega)
        have e : (10 : Nat) ^ 19 = 10000000000000000000 := by decide
        omega
      rw [number_end minus m _ (by omega)]
      rfl
def numT (minus : Bool) (t : B) : Option Int :=
  if t = [] ∨ 19 < t.length ∨ (t.head? = some 48 ∧ (1 < t.length ∨ minus = true)) then none
  else if allDig t = false then none else fin minus (dval 0 t)
theorem refNum_eq (w : B) : refNum w = numT (decide (1 < w.length) && decide (w.head? = some 45)) (if (decide (1 < w.length) && decide (w.head? = some 45)) = true then w.tail else w) := rfl
theorem number_j1 (minus : Bool) (t : ByteArray) : radomeref40_Number.j1 40 minus t = some (ans (numT minus t.data.toList)) := by
  have hsz := size_eq t
  have hl := toList_data t
  have yes : ∀ m, radomeref40_Number.j2 (m + 1) minus t true = some (0, false) := fun m => by unfold radomeref40_Number.j2; rfl
  unfold radomeref40_Number.j1
  dsimp only
  rw [hl]
  by_cases h1 : t.data.toList = []
  · have e : numT minus t.data.toList = none := by unfold numT; rw [if_pos (Or.inl h1)]
    rw [if_pos h1, yes, e]; rfl
  · rw [if_neg h1]
    have hpos : 0 < t.data.toList.length := List.length_pos_iff.2 h1
    by_cases h2 : 19 < t.size
    · have e : numT minus t.data.toList = none := by unfold numT; rw [if_pos (Or.inr (Or.inl (by omega)))]
      rw [if_pos (by omega), yes, e]; rfl
    · rw [if_neg (by omega), if_pos (by omega)]
      have hb : bt t 0 = ((t.data.toList.getD 0 0).toNat : Int) := bt_nat t 0 (by omega)
      have hh : t.data.toList.head? = some (t.data.toList.getD 0 0) := by
        cases hc : t.data.toList with
        | nil => exact absurd hc h1
        | cons a r => rfl
      have go : radomeref40_Number.j2 39 minus t false = some (ans (if allDig t.data.toList = false then none else fin minus (dval 0 t.data.toList))) := by
        unfold radomeref40_Number.j2
        dsimp only
        rw [if_neg (by simp)]
        have := number_loop minus t (by omega) 37 0 (by omega) (by omega) rfl
        rw [List.take_zero, List.drop_zero, dval_nil, show ((0 : Nat) : Int) = 0 from rfl] at this
        rw [this]
        cases allDig t.data.toList <;> rfl
      by_cases h3 : t.data.toList.getD 0 0 = 48
      · rw [hb, h3, if_pos (show (((48 : UInt8).toNat : Nat) : Int) = 48 from rfl)]
        by_cases h4 : 1 < t.size
        · have e : numT minus t.data.toList = none := by unfold numT; rw [if_pos (Or.inr (Or.inr ⟨by rw [hh, h3], Or.inl (by omega)⟩))]
          rw [if_pos (by omega), yes, e]; rfl
        · rw [if_neg (by omega)]
          cases minus
          · have e : numT false t.data.toList = if allDig t.data.toList = false then none else fin false (dval 0 t.data.toList) := by
              unfold numT
              rw [if_neg (c := t.data.toList = [] ∨ _)]
              rintro (h | h | ⟨_, h | h⟩)
              · exact h1 h
              · omega
              · omega
              · cases h
            rw [go, e]
          · have e : numT true t.data.toList = none := by unfold numT; rw [if_pos (Or.inr (Or.inr ⟨by rw [hh, h3], Or.inr rfl⟩))]
            rw [yes, e]; rfl
      · have h3' : ((t.data.toList.getD 0 0).toNat : Int) ≠ 48 := fun e => h3 (UInt8.toNat.inj (by have : (48 : UInt8).toNat = 48 := rfl; omega))
        have e : numT minus t.data.toList = if allDig t.data.toList = false then none else fin minus (dval 0 t.data.toList) := by
          unfold numT
          rw [if_neg (c := t.data.toList = [] ∨ _)]
          rintro (h | h | ⟨h, _⟩)
          · exact h1 h
          · omega
          · rw [hh] at h; exact h3 (Option.some.inj h)
        rw [hb, if_neg h3', go, e]
theorem number_law (s : ByteArray) : radomeref40_Number.f 41 s = some (ans (numOf s.data.toList)) := by
  have hsz := size_eq s
  rw [numOf_ref, refNum_eq]
  unfold radomeref40_Number.f
  by_cases h1 : 1 < s.size
  · have hh : s.data.toList.head? = some (s.data.toList.getD 0 0) := by
      cases hc : s.data.toList with
      | nil => rw [hc, List.length_nil] at hsz; omega
      | cons a r => rfl
    have hb : bt s 0 = ((s.data.toList.getD 0 0).toNat : Int) := bt_nat s 0 (by omega)
    rw [if_pos (by omega), if_pos (by omega), hb, decide_eq_true (show 1 < s.data.toList.length by omega), Bool.true_and, hh]
    unfold radomeref40_Number.j0
    dsimp only
    by_cases h2 : s.data.toList.getD 0 0 = 45
    · rw [h2, show (((45 : UInt8).toNat : Int) == 45) = true from rfl, show decide (some (45 : UInt8) = some 45) = true from rfl, if_pos rfl, if_pos (by omega), number_j1]
      have e : (s.extract 1 s.size).data.toList = s.data.toList.tail := by
        rw [extract_mk, mk_data, List.take_of_length_le (by omega), List.drop_one]
      rw [e]; rfl
    · have h2' : (((s.data.toList.getD 0 0).toNat : Int) == 45) = false := by
        rw [beq_eq_false_iff_ne]; exact fun e => h2 (UInt8.toNat.inj (by have : (45 : UInt8).toNat = 45 := rfl; omega))
      have h2'' : decide (some (s.data.toList.getD 0 0) = some (45 : UInt8)) = false := decide_eq_false (fun e => h2 (Option.some.inj e))
      rw [h2', h2'', if_neg (by simp), number_j1]; rfl
  · rw [if_neg (by omega), decide_eq_false (show ¬ 1 < s.data.toList.length by omega), Bool.false_and]
    unfold radomeref40_Number.j0
    dsimp only
    rw [if_neg (by simp), number_j1]; rfl

/-! ### words -/
theorem blank41 (c : UInt8) : radomeref40_blank.f (c.toNat : Int) = some (isBlank c) := by
  have h : ∀ n : Nat, n < 256 → radomeref40_blank.f (n : Int) = some (isBlank (UInt8.ofNat n)) := by decide +kernel
  have := h c.toNat c.toNat_lt
  rwa [UInt8.ofNat_toNat] at this
theorem noteCut_nil : noteCut [] = [] := rfl
theorem noteCut_note (r : B) : noteCut (37 :: r) = [] := rfl
theorem noteCut_cons (c : UInt8) (r : B) (h : c ≠ 37) : noteCut (c :: r) = c :: noteCut r := by
  unfold noteCut; rw [List.takeWhile_cons_of_pos (by simpa using h)]
theorem words_loop (s : ByteArray) (hs : s.size < 8796093022208) : ∀ (d k : Nat) (acc : List ByteArray) (cur : B), k + d = s.size → acc.length ≤ k → cur.length ≤ k →
    radomeref40_words.l0 (2 * d + 3) s acc (mk cur) k = some (acc ++ (fieldsGo cur (noteCut (s.data.toList.drop k))).map mk)
  | 0, k, acc, cur, hk, ha, hc => by
    have hsz := size_eq s
    have hcl : (mk cur).toList = cur := by rw [toList_data, mk_data]
    have e : s.data.toList.drop k = [] := List.drop_eq_nil_of_le (by omega)
    show radomeref40_words.l0 (2 + 1) s acc (mk cur) k = _
    unfold radomeref40_words.l0
    rw [if_pos (by omega), if_neg (by omega), e]
    show radomeref40_words.j1 (1 + 1) s acc (mk cur) k false = _
    unfold radomeref40_words.j1
    rw [if_neg (by simp), hcl]
    have stop : ∀ acc, radomeref40_words.l0 (0 + 1) s acc ⟨#[]⟩ (wrap64 ((k : Int) + 1)) = some acc := fun acc => by
      unfold radomeref40_words.l0
      rw [wrap_succ k (by omega), if_neg (by omega)]
    by_cases h2 : cur = []
    · rw [if_pos h2, if_neg (by omega), stop, h2]
      simp [noteCut_nil, fieldsGo]
    · rw [if_neg h2, if_pos (by omega)]
      simp only [Option.bind_some]
      rw [if_neg (by omega), stop]
      simp [noteCut_nil, fieldsGo, h2]
  | d + 1, k, acc, cur, hk, ha, hc => by
    have hsz := size_eq s
    have hcl : (mk cur).toList = cur := by rw [toList_data, mk_data]
    have hkl : k < s.size := by omega
    rw [show 2 * (d + 1) + 3 = (2 * d + 3 + 1) + 1 by omega]
    unfold radomeref40_words.l0
    rw [if_pos (by omega), if_pos (by omega), if_pos (by omega), bt_nat s k hkl, drop_cons' _ _ (by omega)]
    have hx : s.extract k (k + 1) = mk [s.data.toList.getD k 0] := by
      rw [extract_mk, List.drop_take, drop_cons' _ _ (by omega)]
      simp
    have hbt := bt_nat s k hkl
    generalize s.data.toList.getD k 0 = c at *
    rw [blank41]
    simp only [Option.bind_some]
    have rest : ∀ acc', acc'.length ≤ k + 1 → radomeref40_words.l0 (2 * d + 3) s acc' ⟨#[]⟩ (wrap64 ((k : Int) + 1)) = some (acc' ++ (fieldsGo [] (noteCut (s.data.toList.drop (k + 1)))).map mk) := fun acc' h => by
      rw [wrap_succ k (by omega)]
      exact words_loop s hs d (k + 1) acc' [] (by omega) h (by simp)
    -- behind a blank or a note
    have after : radomeref40_words.j1 (2 * d + 3 + 1) s acc (mk cur) k false = (if cur = [] then (if ((c.toNat : Nat) : Int) = 37 then some acc else radomeref40_words.l0 (2 * d + 3) s acc ⟨#[]⟩ (wrap64 ((k : Int) + 1))) else
        (if ((c.toNat : Nat) : Int) = 37 then some (acc ++ [mk cur]) else radomeref40_words.l0 (2 * d + 3) s (acc ++ [mk cur]) ⟨#[]⟩ (wrap64 ((k : Int) + 1)))) := by
      unfold radomeref40_words.j1
      rw [if_neg (by simp), hcl, hbt]
      by_cases h2 : cur = []
      · rw [if_pos h2, if_pos h2, if_pos (by omega), if_pos (by omega)]
      · rw [if_neg h2, if_neg h2, if_pos (by omega)]
        simp only [Option.bind_some]
        rw [if_pos (by omega), if_pos (by omega)]
    by_cases hb : isBlank c = true
    · have hc37 : c ≠ 37 := fun e => by subst e; revert hb; decide
      have hc37' : ¬ ((c.toNat : Nat) : Int) = 37 := fun e => hc37 (UInt8.toNat.inj (by have : (37 : UInt8).toNat = 37 := rfl; omega))
      rw [hb, if_pos rfl, after, noteCut_cons _ _ hc37, fieldsGo, if_pos hb]
      by_cases h2 : cur = []
      · rw [if_pos h2, if_pos h2, if_neg hc37', rest acc (by omega)]
      · rw [if_neg h2, if_neg h2, if_neg hc37', rest _ (by rw [List.length_append, List.length_singleton]; omega), List.map_cons, List.append_assoc]; rfl
    · rw [if_neg hb]
      show radomeref40_words.j1 (2 * d + 3 + 1) s acc (mk cur) k (((c.toNat : Nat) : Int) != 37) = _
      by_cases h37 : c = 37
      · subst h37
        rw [show (((37 : UInt8).toNat : Int) != 37) = false from rfl, after, noteCut_note, fieldsGo]
        by_cases h2 : cur = []
        · rw [if_pos h2, if_pos (show (((37 : UInt8).toNat : Nat) : Int) = 37 from rfl), if_pos h2]; simp
        · rw [if_neg h2, if_pos (show (((37 : UInt8).toNat : Nat) : Int) = 37 from rfl), if_neg h2]; simp
      · have h37' : (((c.toNat : Nat) : Int) != 37) = true := by
          rw [bne_iff_ne]; exact fun e => h37 (UInt8.toNat.inj (by have : (37 : UInt8).toNat = 37 := rfl; omega))
        rw [h37', noteCut_cons _ _ h37, fieldsGo, if_neg hb]
        unfold radomeref40_words.j1
        rw [if_pos rfl, if_pos (by omega), wrap_succ k (by omega), if_pos (by omega), if_pos (by omega)]
        have hx' : s.extract (k : Int).toNat (((k + 1 : Nat) : Int)).toNat = mk [c] := by rw [Int.toNat_natCast, Int.toNat_natCast]; exact hx
        rw [hx', if_pos (by rw [mk_size, mk_size]; simp; omega)]
        have hap : mk cur ++ mk [c] = mk (cur ++ [c]) := by
          apply of_mk
          rw [ByteArray.data_append, Array.toList_append, mk_data, mk_data]
        rw [hap]
        exact words_loop s hs d (k + 1) acc (cur ++ [c]) (by omega) (by omega) (by simp; omega)
theorem words_law (s : ByteArray) (hs : s.size < 8796093022208) : radomeref40_words.f (2 * s.size + 3) s = some ((wordsOf s.data.toList).map mk) := by
  have := words_loop s hs s.size 0 [] [] (by omega) (by simp) (by simp)
  rw [List.nil_append, List.drop_zero] at this
  exact this
end Go.Proofs.YtfiacgkhkonilaaGreatDoor

/- The document's Digits and Line, as printed, in plain words: a command's words joined by blanks. -/
namespace Go.Proofs.YtfiacgkhkonilaaGreatDoor
open Go Go.RowKit Go.Lib Go.Proofs.YtfiacgkhkonilaaGreatDoorW.PrintWords
open Go.Proofs.YtfiacgkhkonilaaGreatDoor.PDigits

/-- The hexadecimal digits of bytes. -/
def hexW (bs : List Int) : B := bs.flatMap fun x => [hexa.getD (x.toNat / 16) 0, hexa.getD (x.toNat % 16) 0]
/-- A command's words behind its verb. -/
def tailWords (ws : List B) (ns : List Int) (bs : List Int) : List B := ws ++ (ns.map itoa ++ if bs = [] then [] else [hexW bs])
def cmdWords (c : Cmd) : List B := c.verb :: tailWords c.words c.nums c.bytes
def sp (l : List B) : B := joinTail [32] l
def lineOf (c : Cmd) : B := c.verb ++ sp (tailWords c.words c.nums c.bytes)
theorem sp_cons (x : B) (l : List B) : sp (x :: l) = 32 :: x ++ sp l := by simp [sp, joinTail]
theorem sp_app (a b : List B) : sp (a ++ b) = sp a ++ sp b := by simp [sp, joinTail]
theorem line_join (c : Cmd) : lineOf c = join (cmdWords c) [32] := by rw [cmdWords, join_cons]; rfl
theorem app_mk (a b : B) : mk a ++ mk b = mk (a ++ b) := of_mk (by rw [ByteArray.data_append, Array.toList_append, mk_data, mk_data])

/-! ### Digits -/
def dec10 : ByteArray := ⟨#[48, 49, 50, 51, 52, 53, 54, 55, 56, 57]⟩
theorem dec10_at (i : Nat) (h : i < 10) : dec10.extract i (i + 1) = mk [UInt8.ofNat (48 + i)] := by
  have : ∀ i, i < 10 → dec10.extract i (i + 1) = mk [UInt8.ofNat (48 + i)] := by decide +kernel
  exact this i h
theorem digs_end (k : Nat) (acc : B) (h : acc ≠ []) : radomeref40_Digits.l0 (k + 1) 0 (mk acc) = some (mk acc) := by
  unfold radomeref40_Digits.l0
  rw [if_neg (by omega), if_neg (by rw [toList_data, mk_data]; exact h)]
theorem digs (d : Nat) : ∀ (m : Nat) (acc : B) (k : Nat), m < 10 ^ d → m ≠ 0 → m ≤ 9223372036854775807 → acc.length + d ≤ 1000 → radomeref40_Digits.l0 (k + d + 1) (m : Int) (mk acc) = some (mk (decDigits m ++ acc)) := by
  induction d with
  | zero => intro m acc k h h0; omega
  | succ d ih =>
    intro m acc k h h0 hm ha
    rw [show k + (d + 1) + 1 = (k + d + 1) + 1 by omega]
    unfold radomeref40_Digits.l0
    have e1 : Int.tmod (m : Int) 10 = ((m % 10 : Nat) : Int) := by rw [Int.tmod_eq_emod_of_nonneg (by omega)]; omega
    have e2 : Int.tdiv (m : Int) 10 = ((m / 10 : Nat) : Int) := by rw [Int.tdiv_eq_ediv_of_nonneg (by omega)]; omega
    have e3 : wrap64 (((m % 10 : Nat) : Int) + 1) = ((m % 10 + 1 : Nat) : Int) := by rw [wrap_in]; omega; omega
    have e4 : wrap64 ((m / 10 : Nat) : Int) = ((m / 10 : Nat) : Int) := by rw [wrap_in]; omega
    have hx := dec10_at (m % 10) (by omega)
    unfold dec10 at hx
    rw [if_pos (by omega), e1, e3, if_pos (by omega), if_pos (by omega), if_pos (by omega), Int.toNat_natCast, Int.toNat_natCast, hx, mk_size, mk_size, if_pos (by simp; omega), app_mk, e2, e4]
    by_cases h1 : m / 10 = 0
    · rw [h1]
      show radomeref40_Digits.l0 (k + d + 1) 0 _ = _
      rw [digs_end _ _ (by simp), decDigits, dif_pos (by omega), show m % 10 = m by omega]
    · rw [ih (m / 10) _ k (by rw [Nat.pow_succ] at h; omega) h1 (by omega) (by simp; omega)]
      conv => rhs; rw [decDigits, dif_neg (by omega)]
      simp
theorem digits_pos (m : Nat) (hm : m ≤ 9223372036854775807) (k : Nat) : radomeref40_Digits.l0 (k + 22) (m : Int) (mk []) = some (mk (decDigits m)) := by
  by_cases h : m = 0
  · subst h
    unfold radomeref40_Digits.l0
    have hx := dec10_at 0 (by omega)
    unfold dec10 at hx
    have e1 : Int.tmod ((0 : Nat) : Int) 10 = ((0 : Nat) : Int) := rfl
    have e2 : Int.tdiv ((0 : Nat) : Int) 10 = 0 := rfl
    have e3 : wrap64 (((0 : Nat) : Int) + 1) = ((0 + 1 : Nat) : Int) := by rw [wrap_in]; omega; omega
    rw [if_neg (by omega), if_pos (by rw [toList_data, mk_data]), e1, e3, if_pos (by omega), if_pos (by omega), if_pos (by omega), Int.toNat_natCast, Int.toNat_natCast, hx, mk_size, mk_size, if_pos (by simp), app_mk, e2, wrap_in _ (by omega)]
    show radomeref40_Digits.l0 (k + 20 + 1) 0 _ = _
    rw [digs_end _ _ (by simp), decDigits, dif_pos (by omega)]
    rfl
  · have := digs 21 m [] k (by omega) h hm (by simp)
    rw [List.append_nil] at this
    exact this
def leastDigits : B := [57, 50, 50, 51, 51, 55, 50, 48, 51, 54, 56, 53, 52, 55, 55, 53, 56, 48, 56]
theorem least_itoa : itoa (-9223372036854775808) = 45 :: leastDigits := by
  have h := dec_of_val 19 leastDigits rfl (by decide +kernel) (by decide) (.inl (by decide))
  have hv : dval 0 leastDigits = 9223372036854775808 := by decide +kernel
  rw [hv] at h
  rw [itoa, if_pos (by omega), ← h]
  rfl
theorem digits_ref (n : Int) (h0 : -9223372036854775808 ≤ n) (h1 : n ≤ 9223372036854775807) (k : Nat) : radomeref40_Digits.f (k + 24) n = some (mk (itoa n)) := by
  unfold radomeref40_Digits.f
  by_cases a : n < -9223372036854775807
  · obtain rfl : n = -9223372036854775808 := by omega
    rw [if_pos (by omega), least_itoa]
    rfl
  · rw [if_neg a]
    by_cases b : n < 0
    · rw [if_pos b, wrap_in _ (by omega)]
      obtain ⟨m, rfl⟩ : ∃ m : Nat, n = -(m : Int) := ⟨n.natAbs, by omega⟩
      rw [Int.neg_neg]
      unfold radomeref40_Digits.f
      rw [if_neg (by omega), if_neg (by omega)]
      show (radomeref40_Digits.l0 (k + 22) _ (mk [])).bind _ = _
      rw [digits_pos m (by omega)]
      simp only [Option.bind_some]
      have hl := dec_len m (by omega)
      rw [mk_size, if_pos (by omega)]
      show some (mk [45] ++ mk (decDigits m)) = _
      rw [app_mk, itoa, if_pos b]
      simp
    · rw [if_neg b]
      obtain ⟨m, rfl⟩ := Int.eq_ofNat_of_zero_le (show 0 ≤ n by omega)
      show radomeref40_Digits.l0 (k + 1 + 22) _ (mk []) = _
      rw [digits_pos m (by omega), itoa, if_neg b]
      simp
end Go.Proofs.YtfiacgkhkonilaaGreatDoor

/- A range over a function whose iterator keeps a captured variable in a cell of its own: the contract of such an iterator (SeqC), and the law of the statement over it; no program in sight. -/
namespace Go.Proofs.YtfiacgkhkonilaaGreatDoor
open Go Go.RowKit

/-- The iterator goes over just xs; it writes cells of block Bs alone; a round that goes on keeps Kp. -/
def SeqC {α : Type} (F : Fence) (n : Nat) (P : Program) (g : Nat) (lb : Array Value) (encs : α → Array Value) (Bs : Nat) (Kp : World → World → Prop) (xs : List α) (w : World) : Prop :=
  ∀ (l : Nat) (J Jx : List α → World → Prop) (W : World), Below w.heap.size w W →
    (∀ s A B, J s A → A.grownBy B (some Bs) → J s B) → (∀ s A B, Jx s A → A.grownBy B (some Bs) → Jx s B) →
    (∀ pre x post W1, J pre W1 → xs = pre ++ x :: post → YieldAt F (n - 1) P l (encs x) W1 fun e W' =>
      (e = .returned (.bool true) ∧ J (pre ++ [x]) W' ∧ Kp W1 W') ∨ (e = .returned (.bool false) ∧ Jx (pre ++ [x]) W')) →
    J [] W →
    CallsIn F n P g (#[.func (.yield l) #[] #[]] ++ lb) W fun e W' => (∃ v, e = .returned v) ∧ (J xs W' ∨ (∃ pre, pre <+: xs ∧ Jx pre W'))

variable {F : Fence} {n : Nat} {P : Program}

theorem wpIn_rangeFunc_C {α : Type} {g : Operand} {ps : Array Tmp} {assign body : Code} {Q : Exit → Act → World → Prop} {a : Act} {w : World}
    (hro : F.round = none) (h1 : 1 ≤ n) {gf : Nat} {lb : Array Value} (hg : a.eval g = .func (.func gf) #[] lb) (hFg : F.fn gf) (eg : ∀ args w, (callFunc gf args).run P w = .ok (.enter gf args) w)
    {encs : α → Array Value} {Bs : Nat} {Kp : World → World → Prop} {xs : List α} (hseq : SeqC F (n - 1) P gf lb encs Bs Kp xs w) (hBs : Bs < w.heap.size)
    (hKt : ∀ {A B C : World}, Kp A B → Kp B C → Kp A C) (hKb : ∀ (W : World) (l : Nat) (o : Obj), w.heap.size ≤ l → Kp W (W.putObj l o)) (hps : ∀ x, (encs x).size = ps.size)
    (I : List α → World → Prop) (Ix : Code → List α → World → Prop) (hI : OwnFrom w.heap.size I) (hIx : ∀ c, OwnFrom w.heap.size (Ix c))
    (hIB : ∀ s A B, I s A → A.grownBy B (some Bs) → I s B) (hIxB : ∀ c s A B, Ix c s A → A.grownBy B (some Bs) → Ix c s B) (h0 : I [] w) (a₁ : α → Act)
    (hassign : ∀ (l : Nat) (x : α) (W : World) (K : Act → World → Prop), K (a₁ x) W →
      assign.wpIn (F.inRound l) (n - 1 - 1) P (Exit.then K (fun _ _ _ => False)) { tmps := (ps.zip (encs x)).foldl (fun t (p, v) => t.setIfInBounds p v) a.tmps, defers := [] } W)
    (hbody : ∀ (l : Nat) (pre : List α) (x : α) (post : List α) (W : World), I pre W → xs = pre ++ x :: post → body.wpIn (F.inRound l) (n - 1 - 1) P (ownPostK Kp I Ix (pre ++ [x]) W) (a₁ x) W)
    (hdone : ∀ (D : Nat) (W : World), w.heap.size ≤ D → I xs W → W.heap[D]? = some (.deferred (some [])) → Q .normal { a with defers := { target := .collected D, args := #[] } :: a.defers } W)
    (hstop : ∀ (D : Nat) (c : Code) (pre : List α) (W : World), w.heap.size ≤ D → pre <+: xs → Ix c pre W → W.heap[D]? = some (.deferred (some [])) → c.wpIn F n P Q { a with defers := { target := .collected D, args := #[] } :: a.defers } W) :
    (Code.rangeFunc g ps assign body).wpIn F n P Q a w := by
  refine wpIn_rangeFunc ?_
  intro fn hfn
  rw [hro]
  obtain ⟨rec, hrec⟩ : ∃ rec : LoopState → Option Code → Loop, rec = fun st pe => { state := st, pending := pe, fn, tmps := a.tmps, params := ps, assign, body, defers := w.heap.size } := ⟨_, rfl⟩
  obtain ⟨W1, hW1⟩ : ∃ W1, (w.alloc (.deferred (some []))).alloc (.loop (rec .ready none)) = W1 := ⟨_, rfl⟩
  have hL1 : W1.heap[w.heap.size + 1]? = some (.loop (rec .ready none)) := by
    rw [← hW1]; have := World.alloc_heap_new (w.alloc (.deferred (some []))) (.loop (rec .ready none)); rwa [World.size_alloc] at this
  have hK1 : W1.heap[w.heap.size]? = some (.deferred (some [])) := by
    rw [← hW1]; exact (Below.heap_alloc _ _ _ (by simp)).trans (World.alloc_heap_new w _)
  have hI1 : I [] W1 := by rw [← hW1]; exact hI.alloc _ (hI.alloc _ h0)
  have hb1 : Below w.heap.size w W1 := by
    rw [← hW1]; exact ((Below.refl _ w).alloc (Nat.le_refl _) _).alloc (by simp) _
  have keep : ∀ {A B : World} {k : Nat} {o : Obj}, A.grownBy B (some Bs) → w.heap.size ≤ k → A.heap[k]? = some o → B.heap[k]? = some o := fun hg hk h =>
    (hg.block _ (Array.getElem?_eq_some_iff.1 h).1 (by intro e; cases e; omega)).trans h
  refine ⟨w.heap.size + 1, [{ target := .collected w.heap.size, args := #[] }], W1, { target := .fn (.func gf) lb, args := #[.func (.yield (w.heap.size + 1)) #[] #[]] }, W1, gf,
    #[.func (.yield (w.heap.size + 1)) #[] #[]] ++ lb, W1, ?_, ?_, ?_, ?_, fun _ => h1, ?_⟩
  · rw [← hW1, hrec]; exact run_enterLoop_outer _ _ _ _ _
  · simp only [resolve, hg]
    simp [go_sem]
  · intro f' hf'; simp [Target.leads] at hf'; subst hf'; exact hFg
  · simp [invoke, go_sem, eg]
  · refine (hseq (w.heap.size + 1)
      (fun pre W => I pre W ∧ W.heap[w.heap.size + 1]? = some (.loop (rec .ready none)) ∧ W.heap[w.heap.size]? = some (.deferred (some [])))
      (fun pre W => ∃ c, Ix c pre W ∧ W.heap[w.heap.size + 1]? = some (.loop (rec .done (some c))) ∧ W.heap[w.heap.size]? = some (.deferred (some [])))
      W1 hb1
      (fun s A B hs hg' => ⟨hIB s A B hs.1 hg', keep hg' (by omega) hs.2.1, keep hg' (by omega) hs.2.2⟩)
      (fun s A B hs hg' => by
        obtain ⟨c, hc, hl, hk⟩ := hs
        exact ⟨c, hIxB c s A B hc hg', keep hg' (by omega) hl, keep hg' (by omega) hk⟩)
      ?_ ⟨hI1, hL1, hK1⟩).mono ?_
    · rintro pre x post W ⟨hi, hl, hk⟩ hlen
      have hlt : w.heap.size + 1 < W.heap.size := (Array.getElem?_eq_some_iff.1 hl).1
      have hy := run_yield (P := P) (args := encs x) hl (by rw [hrec]; exact hps x)
      rw [hrec] at hy
      refine ⟨fn, _, assign, body, hy, roundIn_of_wpIn hfn (hassign _ x W _ ⟨_, run_beginRound hl (by rw [hrec]), ?_⟩)⟩
      have hl2 : (W.putObj (w.heap.size + 1) (.loop { rec .ready none with state := .busy })).heap[w.heap.size + 1]? = some (.loop { rec .ready none with state := .busy }) := World.putObj_heap_same hlt
      have hk2 : (W.putObj (w.heap.size + 1) (.loop { rec .ready none with state := .busy })).heap[w.heap.size]? = some (.deferred (some [])) := (World.putObj_heap_other (by omega)).trans hk
      have hw2 : Kp W (W.putObj (w.heap.size + 1) (.loop { rec .ready none with state := .busy })) := hKb _ _ _ (by omega)
      refine wpIn_mono (hbody _ pre x post _ (hI.putObj _ hi (by omega) hl rfl) hlen) ?_
      have fin : ∀ (jump : Option Code) (W3 : World), KeepsOthers (W.putObj (w.heap.size + 1) (.loop { rec .ready none with state := .busy })) W3 →
          (Instr.endRound (w.heap.size + 1) jump).run P W3 = .ok (.bool jump.isNone) (W3.putObj (w.heap.size + 1) (.loop (rec (if jump.isNone then .ready else .done) jump))) ∧
          W3.heap[w.heap.size + 1]? = some (.loop { rec .ready none with state := .busy }) ∧
          (W3.putObj (w.heap.size + 1) (.loop (rec (if jump.isNone then .ready else .done) jump))).heap[w.heap.size + 1]? = some (.loop (rec (if jump.isNone then .ready else .done) jump)) ∧
          (W3.putObj (w.heap.size + 1) (.loop (rec (if jump.isNone then .ready else .done) jump))).heap[w.heap.size]? = some (.deferred (some [])) := fun jump W3 hk3 => by
        have hl3 := hk3.same _ _ hl2 rfl
        have := run_endRound (P := P) jump hl3
        rw [hrec] at this ⊢
        exact ⟨this, by rw [hrec] at hl3; exact hl3, World.putObj_heap_same (Array.getElem?_eq_some_iff.1 hl3).1, (World.putObj_heap_other (by omega)).trans (hk3.same _ _ hk2 rfl)⟩
      rintro e a3 W3 hp
      cases e with
      | normal =>
        obtain ⟨hk3, hkp3, hi3⟩ := hp
        obtain ⟨hr, hl3, hl4, hk4⟩ := fin none W3 hk3
        exact ⟨_, _, hr, .inl ⟨rfl, ⟨hI.putObj _ hi3 (by omega) hl3 rfl, hl4, hk4⟩, hKt (hKt hw2 hkp3) (hKb _ _ _ (by omega))⟩⟩
      | ret =>
        obtain ⟨hk3, hi3⟩ := hp
        obtain ⟨hr, hl3, hl4, hk4⟩ := fin (some .ret) W3 hk3
        exact ⟨_, _, hr, .inr ⟨rfl, .ret, (hIx _).putObj _ hi3 (by omega) hl3 rfl, hl4, hk4⟩⟩
      | exit id =>
        obtain ⟨hk3, hi3⟩ := hp
        obtain ⟨hr, hl3, hl4, hk4⟩ := fin (some (.exit id)) W3 hk3
        exact ⟨_, _, hr, .inr ⟨rfl, .exit id, (hIx _).putObj _ hi3 (by omega) hl3 rfl, hl4, hk4⟩⟩
      | goto t =>
        obtain ⟨hk3, hi3⟩ := hp
        obtain ⟨hr, hl3, hl4, hk4⟩ := fin (some (.goto t)) W3 hk3
        exact ⟨_, _, hr, .inr ⟨rfl, .goto t, (hIx _).putObj _ hi3 (by omega) hl3 rfl, hl4, hk4⟩⟩
      | panic ch => exact hp.elim
      | outgrown => exact hp.elim
    · rintro e W2 ⟨⟨v, rfl⟩, (⟨hi, hl, hk⟩ | ⟨pre, hSp, c, hi, hl, hk⟩)⟩
      · exact ⟨none, _, by have := run_endLoop (P := P) hl (by rw [hrec]; simp); rw [hrec] at this; exact this, hdone _ _ (by omega) (hI.putObj _ hi (by omega) hl rfl) ((World.putObj_heap_other (by omega)).trans hk)⟩
      · exact ⟨some c, _, by have := run_endLoop (P := P) hl (by rw [hrec]; simp); rw [hrec] at this; exact this, hstop _ c pre _ (by omega) hSp ((hIx c).putObj _ hi (by omega) hl rfl) ((World.putObj_heap_other (by omega)).trans hk)⟩

end Go.Proofs.YtfiacgkhkonilaaGreatDoor

/- strings.SplitSeq(s, newline): what it hands back, and that the closure goes over the lines of s, in order. -/
namespace Go.Proofs.YtfiacgkhkonilaaGreatDoor
open Go Go.RowKit Go.Shelf Go.Proofs.YtfiacgkhkonilaaGreatDoorW.PrintWords
attribute [local go_sem] Oper.semAt_some

/-- The blocks lo, .., lo + 2 lie as they lay. -/
def Keep3 (lo : Nat) (W W' : World) : Prop := ∀ k, lo ≤ k → k < lo + 3 → W'.heap[k]? = W.heap[k]?

theorem grown_set (w : World) (b i : Nat) (v : Value) : w.grownBy (w.setCell ⟨b, i, none⟩ v) (some b) :=
  ⟨rfl, rfl, rfl, by simp, fun k _ hk => Below.heap_setCell w ⟨b, i, none⟩ v k (fun e => hk (by rw [e]))⟩

set_option maxRecDepth 100000 in
set_option maxHeartbeats 2000000 in
theorem split_seq (n b0 : Nat) (s : ByteArray) (hs : s.size ≤ 140737488351232) (hn : 1 ≤ n) (w : World)
    (h0 : w.heap[b0]? = some (.cells #[.string s] 9 (0, 0))) (h1 : w.heap[b0 + 1]? = some (.cells #[.string ⟨#[10]⟩] 9 (0, 0))) (h2 : w.heap[b0 + 2]? = some (.cells #[.int .i64 0] 3 (0, 0))) :
    SeqC Fence.wide n Tryz.prog 52 #[.pointer (some ⟨b0 + 1, 0, none⟩), .pointer (some ⟨b0, 0, none⟩), .pointer (some ⟨b0 + 2, 0, none⟩)] (fun x : ByteArray => #[Value.string x]) b0 (Keep3 b0) ((lines s.data.toList).map mk) w := by
  intro l J Jx W hW hJ hJx hY hJ0
  have lt0 : b0 < w.heap.size := (Array.getElem?_eq_some_iff.1 h0).1
  have lt1 : b0 + 1 < w.heap.size := (Array.getElem?_eq_some_iff.1 h1).1
  have lt2 : b0 + 2 < w.heap.size := (Array.getElem?_eq_some_iff.1 h2).1
  have H0 := (hW.block b0 lt0).trans h0
  have H1 := (hW.block (b0 + 1) lt1).trans h1
  have H2 := (hW.block (b0 + 2) lt2).trans h2
  clear hW h0 h1 h2
  refine callsIn_of_wp Tryz.func52 rfl trivial ?_ rfl
  simp only [Tryz.ntmps52, List.size_toArray, List.length_cons, List.length_nil, Nat.reduceAdd, Nat.reduceSub, Array.replicate_succ, Array.replicate_zero, List.push_toArray, List.append_toArray, List.nil_append, List.cons_append]
  have c1 : W.cell? ⟨b0 + 1, 0, none⟩ = some (.string ⟨#[10]⟩) := cell_of_row W (b0 + 1) 0 _ _ _ H1
  gi_wp2
  gi_loopw [7] (fun _ wr => ∃ (pre : List ByteArray) (r : ByteArray), (lines s.data.toList).map mk = pre ++ (lines r.data.toList).map mk ∧ r.size ≤ 140737488351232 ∧
      wr.heap[b0]? = some (.cells #[.string r] 9 (0, 0)) ∧ wr.heap[b0 + 1]? = some (.cells #[.string ⟨#[10]⟩] 9 (0, 0)) ∧ wr.heap[b0 + 2]? = some (.cells #[.int .i64 0] 3 (0, 0)) ∧ J pre wr)
    (fun _ wr => match wr.cell? ⟨b0, 0, none⟩ with | some (.string r) => r.size | _ => 0)
  case atStart => exact ⟨[], s, rfl, hs, H0, H1, H2, hJ0⟩
  case round =>
    obtain ⟨pre, r, hx, hr, G0, G1, G2, hJs⟩ := hrel
    have c0 : wr.cell? ⟨b0, 0, none⟩ = some (.string r) := cell_of_row wr b0 0 _ _ _ G0
    have c1' : wr.cell? ⟨b0 + 1, 0, none⟩ = some (.string ⟨#[10]⟩) := cell_of_row wr (b0 + 1) 0 _ _ _ G1
    have c2 : wr.cell? ⟨b0 + 2, 0, none⟩ = some (.int .i64 0) := cell_of_row wr (b0 + 2) 0 _ _ _ G2
    have hix := Tryz.strings_Index_one r 10 wr
    have hge := Lib.indexByte_ge r.data.toList 10
    by_cases hi : Lib.indexByte r.data.toList 10 = -1
    · rw [hi] at hix
      have HX := Lib.hid hix
      have hl := lines_none hi
      clear hix hge hi
      rw [hl] at hx
      obtain ⟨fn, tmps, assign, body, hy, hR⟩ := hY pre r [] wr hJs (by rw [hx]; simp [mk_of])
      have HX2 := Lib.hid hx
      clear hx hl H0 H1 H2 hY
      gi_wp2_with (refine ⟨trivial, ?_⟩; gi_at_call 54; refine ((callsIn_wide.2 HX.out)).mono ?_; rintro e w' ⟨rfl, rfl⟩)
      refine hR.mono ?_
      have hx := HX2.out
      rintro e W3 (⟨rfl, hJ3, hk3⟩ | ⟨rfl, hJx3⟩)
      · gi_wp2
        go_end0
        exact ⟨⟨_, rfl⟩, .inl (by rw [hx]; simpa [mk_of] using hJ3)⟩
      · gi_wp2
        go_end0
        exact ⟨⟨_, rfl⟩, .inr ⟨_, by rw [hx]; simp [mk_of], hJx3⟩⟩
    · obtain ⟨o, ho⟩ : ∃ o : Nat, Lib.indexByte r.data.toList 10 = o := ⟨(Lib.indexByte r.data.toList 10).toNat, by omega⟩
      rw [ho] at hix
      have HX := Lib.hid hix
      have hl := lines_some ho
      have hlt := index_lt ho
      rw [← Lib.size_eq] at hlt
      clear hix hge hi ho
      have hx' : List.map mk (lines s.data.toList) = pre ++ r.extract 0 o :: List.map mk (lines (r.extract (o + 1) r.size).data.toList) := by
        rw [hx, hl, List.map_cons]
        congr 2
        · rw [Lib.extract_eq]; simp [mk]
        · rw [Lib.extract_data]; congr 2; rw [Lib.size_eq, List.take_of_length_le]; simp
      obtain ⟨fn, tmps, assign, body, hy, hR⟩ := hY pre (r.extract 0 o) _ wr hJs hx'
      have HX2 := Lib.hid hx'
      clear hx hl H0 H1 H2 hY hx'
      gi_wp2_with (refine ⟨trivial, ?_⟩; gi_at_call 54; refine ((callsIn_wide.2 HX.out)).mono ?_; rintro e w' ⟨rfl, rfl⟩)
      refine hR.mono ?_
      have hx := HX2.out
      rintro e W3 (⟨rfl, hJ3, hk3⟩ | ⟨rfl, hJx3⟩)
      · have G0' := (hk3 b0 (by omega) (by omega)).trans G0
        have G1' := (hk3 (b0 + 1) (by omega) (by omega)).trans G1
        have G2' := (hk3 (b0 + 2) (by omega) (by omega)).trans G2
        have d0 : W3.cell? ⟨b0, 0, none⟩ = some (.string r) := cell_of_row W3 b0 0 _ _ _ G0'
        have d1 : W3.cell? ⟨b0 + 1, 0, none⟩ = some (.string ⟨#[10]⟩) := cell_of_row W3 (b0 + 1) 0 _ _ _ G1'
        have f0 : W3.frozen? ⟨b0, 0, none⟩ = false := by simp [World.frozen?, G0']
        clear hx
        have c0' := c0
        have C0 := Lib.hid c0'
        clear G0 G1 G2 c0 c1' c2 c0'
        have K0 := Lib.hid G0'
        have K1 := Lib.hid G1'
        have K2 := Lib.hid G2'
        clear G0' G1' G2' hk3 hR hy
        gi_wp2
        have e0 := blk_set K0.out 0 (.string (r.extract (o + 1) r.size))
        have e1 := blk_far K1.out (p := ⟨b0, 0, none⟩) (by simp) (.string (r.extract (o + 1) r.size))
        have e2 := blk_far K2.out (p := ⟨b0, 0, none⟩) (by simp) (.string (r.extract (o + 1) r.size))
        refine ⟨⟨pre ++ [r.extract 0 o], r.extract (o + 1) r.size, by rw [HX2.out]; simp, by rw [ByteArray.size_extract]; omega, e0, e1, e2, hJ _ _ _ hJ3 (grown_set W3 _ _ _)⟩, ?_⟩
        rw [cell_of_row _ b0 0 _ _ _ e0, C0.out]
        show (r.extract (o + 1) r.size).size < r.size
        rw [ByteArray.size_extract]; omega
      · gi_wp2
        refine bodyPost_ret (results_none rfl _ _ _) rfl ?_
        exact ⟨⟨_, rfl⟩, .inr ⟨_, by rw [hx]; simp, hJx3⟩⟩
end Go.Proofs.YtfiacgkhkonilaaGreatDoor

/- slices.Chunk(b, 2) of bytes whose number is even: what it hands back, and that the closure goes over the pairs, in order. -/
namespace Go.Proofs.YtfiacgkhkonilaaGreatDoor
open Go Go.RowKit Go.Shelf Go.Proofs.YtfiacgkhkonilaaGreatDoorW.PrintWords Go.Proofs.YtfiacgkhkonilaaGreatDoorW.PrintMore
attribute [local go_sem] Oper.semAt_some max2_int min2_int max_two min_two

/-- The blocks lo, lo + 1 lie as they lay. -/
def Keep2 (lo : Nat) (W W' : World) : Prop := ∀ k, lo ≤ k → k < lo + 2 → W'.heap[k]? = W.heap[k]?

theorem range_split {m k : Nat} (h : k < m) : List.range m = List.range k ++ k :: List.range' (k + 1) (m - k - 1) := by
  apply List.ext_getElem
  · simp; omega
  · intro i h1 h2
    simp only [List.getElem_range, List.getElem_append, List.length_range]
    split
    · rfl
    · rw [List.getElem_cons]
      split
      · omega
      · simp; omega

set_option maxRecDepth 100000 in
set_option maxHeartbeats 2000000 in
theorem chunk_seq (n b0 bb cap m : Nat) (hm : m ≤ 70368744177664) (hcap : 2 * m ≤ cap) (hcap2 : cap ≤ 9223372036854775807) (hn : 1 ≤ n) (w : World)
    (h0 : w.heap[b0]? = some (.cells #[.slice (some ⟨bb, 0, none⟩) (2 * m) cap] 35 (0, 0))) (h1 : w.heap[b0 + 1]? = some (.cells #[.int .i64 2] 3 (0, 0))) :
    SeqC Fence.wide n Tryz.prog 72 #[.pointer (some ⟨b0, 0, none⟩), .pointer (some ⟨b0 + 1, 0, none⟩)] (fun k : Nat => #[Value.slice (some ⟨bb, 2 * k, none⟩) 2 2]) b0 (Keep2 b0) (List.range m) w := by
  intro l J Jx W hW hJ hJx hY hJ0
  have lt0 : b0 < w.heap.size := (Array.getElem?_eq_some_iff.1 h0).1
  have lt1 : b0 + 1 < w.heap.size := (Array.getElem?_eq_some_iff.1 h1).1
  have H0 := (hW.block b0 lt0).trans h0
  have H1 := (hW.block (b0 + 1) lt1).trans h1
  clear hW h0 h1
  refine callsIn_of_wp Tryz.func72 rfl trivial ?_ rfl
  simp only [Tryz.ntmps72, List.size_toArray, List.length_cons, List.length_nil, Nat.reduceAdd, Nat.reduceSub, Array.replicate_succ, Array.replicate_zero, List.push_toArray, List.append_toArray, List.nil_append, List.cons_append]
  gi_wp2
  gi_loopw [4] (fun i wr => ∃ k : Nat, k ≤ m ∧ i = .int .i64 (2 * (k : Int)) ∧ wr.heap[b0]? = some (.cells #[.slice (some ⟨bb, 0, none⟩) (2 * m) cap] 35 (0, 0)) ∧ wr.heap[b0 + 1]? = some (.cells #[.int .i64 2] 3 (0, 0)) ∧ J (List.range k) wr)
    (fun i _ => 2 * m - (intOf i).toNat)
  case atStart => exact ⟨0, Nat.zero_le _, rfl, H0, H1, hJ0⟩
  case round =>
    obtain ⟨k, hk, rfl, G0, G1, hJs⟩ := hrel
    have c0 : wr.cell? ⟨b0, 0, none⟩ = some (.slice (some ⟨bb, 0, none⟩) (2 * m) cap) := cell_of_row wr b0 0 _ _ _ G0
    have c1 : wr.cell? ⟨b0 + 1, 0, none⟩ = some (.int .i64 2) := cell_of_row wr (b0 + 1) 0 _ _ _ G1
    clear H0 H1
    by_cases hlt : k < m
    · have hx := range_split hlt
      have HY := fun W1 hJ1 => hY (List.range k) k _ W1 hJ1 hx
      have HY2 := Lib.hid HY
      have HJ := Lib.hid hJ
      clear hY hx HY hJ hJx
      have hlt2 : 2 * (k : Int) < 2 * (m : Int) := by omega
      gi_wp2
      gi_quiet (fail)
      rename_i nq
      obtain ⟨fn, tmps, assign, body, hy, hR⟩ := HY2.out (wr.drewN nq) (HJ.out _ _ _ hJs ⟨rfl, rfl, rfl, Nat.le_refl _, fun _ _ _ => rfl⟩)
      have G0' := Lib.hid G0
      have G1' := Lib.hid G1
      clear G0 G1
      gi_wp2
      refine hR.mono ?_
      rintro e W3 (⟨rfl, hJ3, hk3⟩ | ⟨rfl, hJx3⟩)
      · have F0 : W3.heap[b0]? = some (.cells #[.slice (some ⟨bb, 0, none⟩) (2 * m) cap] 35 (0, 0)) := (hk3 b0 (by omega) (by omega)).trans G0'.out
        have F1 : W3.heap[b0 + 1]? = some (.cells #[.int .i64 2] 3 (0, 0)) := (hk3 (b0 + 1) (by omega) (by omega)).trans G1'.out
        have d1 : W3.cell? ⟨b0 + 1, 0, none⟩ = some (.int .i64 2) := cell_of_row W3 (b0 + 1) 0 _ _ _ F1
        have F0' := Lib.hid F0
        have F1' := Lib.hid F1
        clear F0 F1 hk3 hR hy
        gi_wp2
        refine ⟨⟨k + 1, by omega, by go_num, F0'.out, F1'.out, by rw [List.range_succ]; exact hJ3⟩, ?_⟩
        simp [intOf]; omega
      · gi_wp2
        refine bodyPost_ret (results_none rfl _ _ _) rfl ?_
        exact ⟨⟨_, rfl⟩, .inr ⟨_, by rw [← List.range_succ, range_split hlt, List.range_succ]; simp, hJx3⟩⟩
    · obtain rfl : k = m := by omega
      clear hY hJ hJx
      gi_wp2
      go_end0
      exact ⟨⟨_, rfl⟩, .inl hJs⟩
end Go.Proofs.YtfiacgkhkonilaaGreatDoor

/- The walk of script.number: a word is a number where ParseInt takes it and FormatInt gives it back. -/
namespace Go.Proofs.YtfiacgkhkonilaaGreatDoor
open Go Go.RowKit Go.Shelf Go.Proofs.YtfiacgkhkonilaaGreatDoorW.PrintWords

theorem parse_range {l : B} {v : Int} (h : Lib.parseIntB 64 l = .ok v) : -9223372036854775808 ≤ v ∧ v ≤ 9223372036854775807 := by
  cases l with
  | nil => simp [Lib.parseIntB] at h
  | cons c r =>
    simp only [Lib.parseIntB] at h
    split at h
    · cases h
    · cases h
    · rename_i u hu
      split at h
      · cases h
      · rename_i h1
        split at h
        · cases h
        · rename_i h2
          injection h with h
          simp only [Nat.reduceSub, Nat.reducePow] at h1 h2
          split at h <;> omega

set_option maxRecDepth 100000 in
theorem number_yes (s : ByteArray) (v : Int) (w : World) (hs : s.size ≤ 140737488351232) (he : Env w) (h : numOf s.data.toList = some v) :
    Calls Tryz.prog 59 #[.string s] w fun e w' => e = .returned (.tuple #[.int .i64 v, .bool true]) ∧ Below w.heap.size w w' := by
  unfold numOf at h
  split at h
  · rename_i v' hp
    split at h
    · rename_i hi
      injection h with h
      subst h
      have hr := parse_range hp
      have HP := Lib.hid (parse_ok s hs v' hp w)
      have HE := Lib.hid he
      have HF := Lib.hid (fun w1 he1 => format_any v' hr.1 hr.2 w1 he1)
      have e0 : mk (Lib.itoa v') = s := by rw [hi, mk_of]
      have HI := Lib.hid e0
      clear hp hi he e0
      go_enter Tryz.func59, Tryz.ntmps59
      go_wp2_with (first | (go_at_call 73; refine HP.out.mono ?_; rintro e w1 ⟨rfl, hb1⟩) | (go_at_call 48; refine (HF.out _ (HE.out.below hb1)).mono ?_; rw [HI.out]; rintro e w2 ⟨rfl, hb2⟩))
      go_ret2
      exact ⟨rfl, below_step hb1 hb2⟩
    · cases h
  · cases h
set_option maxRecDepth 100000 in
theorem number_no (s : ByteArray) (w : World) (hs : s.size ≤ 140737488351232) (he : Env w) (h : numOf s.data.toList = none) :
    Calls Tryz.prog 59 #[.string s] w fun e w' => (∃ x, e = .returned (.tuple #[.int .i64 x, .bool false])) ∧ Below w.heap.size w w' := by
  by_cases hp : ∃ v, Lib.parseIntB 64 s.data.toList = .ok v
  · obtain ⟨v, hp⟩ := hp
    have hi : Lib.itoa v ≠ s.data.toList := fun hi => by simp [numOf, hp, hi] at h
    have hr := parse_range hp
    have HP := Lib.hid (parse_ok s hs v hp w)
    have HE := Lib.hid he
    have HF := Lib.hid (fun w1 he1 => format_any v hr.1 hr.2 w1 he1)
    have e0 : ((mk (Lib.itoa v)).toList == s.toList) = false := by
      rw [Lib.toList_data, Lib.toList_data, mk_data]; simpa using hi
    clear hp hi he h
    go_enter Tryz.func59, Tryz.ntmps59
    go_wp2_with (first | (go_at_call 73; refine HP.out.mono ?_; rintro e w1 ⟨rfl, hb1⟩) | (go_at_call 48; refine (HF.out _ (HE.out.below hb1)).mono ?_; rintro e w2 ⟨rfl, hb2⟩))
    go_ret2
    exact ⟨⟨_, rfl⟩, below_step hb1 hb2⟩
  · have HP := Lib.hid (parse_no s hs (fun v hv => hp ⟨v, hv⟩) w he)
    clear hp he h
    go_enter Tryz.func59, Tryz.ntmps59
    go_wp2_with (go_at_call 73; refine HP.out.mono ?_; rintro e w1 ⟨⟨x, p, rfl⟩, hb1⟩)
    go_ret2
    exact ⟨⟨_, rfl⟩, hb1⟩
end Go.Proofs.YtfiacgkhkonilaaGreatDoor

/- The walk of (*Command).names: the first n words are taken, if each is a name. -/
namespace Go.Proofs.YtfiacgkhkonilaaGreatDoor
open Go Go.RowKit Go.Shelf Go.Proofs.YtfiacgkhkonilaaGreatDoorW.PrintWords Go.Proofs.YtfiacgkhkonilaaGreatDoorW.PrintLast Go.Proofs.YtfiacgkhkonilaaGreatDoorW.PrintMore

theorem info9 : (Tryz.prog.info? 9).map (fun i => (i.zero, i.size, i.bytes)) = some (some (.string ⟨#[]⟩), 1, 16) := by kernel_rfl
theorem info2 : (Tryz.prog.info? 2).map (fun i => (i.zero, i.size, i.bytes)) = some (some (.int .i64 0), 1, 8) := by kernel_rfl

/-- Behind a cut from m on. -/
theorem cutS (xs : List ByteArray) (A : Option Addr) (c m : Nat) (hm : m ≤ xs.length) (hc : xs.length ≤ c) :
    ∃ A' : Option Addr, (∀ W : World, (Instr.slice 33 (.slice A xs.length c) (some (.int .i64 (m : Int))) none none).run Tryz.prog W = .ok (.slice A' (xs.length - m) (c - m)) W) ∧
      (∀ w : World, Kd.string.C w A xs.length xs → Kd.string.C w A' (xs.drop m).length (xs.drop m)) ∧ (∀ ad, A' = some ad → ∃ ad0, A = some ad0 ∧ ad.block = ad0.block) := by
  obtain ⟨i, hi, _, hs, _⟩ := info_parts info9
  refine ⟨if c = m then A else A.map (·.add (m * 1)), fun W => ?_, fun w h => Kd.C_drop (k := Kd.string) h hm hc, fun ad h => ?_⟩
  · have := cut_from (P := Tryz.prog) 33 9 .i64 Tryz.underlying33 hi 1 hs A xs.length c (m : Int) (by omega) (by omega) W
    rwa [Int.toNat_natCast] at this
  · split at h
    · exact ⟨ad, h, rfl⟩
    · cases A with
      | none => cases h
      | some a => exact ⟨a, rfl, by cases h; rw [add_block]⟩

theorem keep_of_grown {w W : World} {g : Nat} (h : w.grownBy W (some g)) : KeepBut w W g none := ⟨h.size, fun i hi hne _ => h.block i hi (fun e => hne (by cases e; rfl))⟩
theorem grown_then {a b c : World} {g : Nat} {row : Option Nat} (h : a.grownBy b (some g)) (k : b.grownBy c row) (hr : ∀ j, row = some j → a.heap.size ≤ j ∨ j = g) : a.grownBy c (some g) :=
  World.grownBy.andThen h k (fun j e => (hr j e).imp id (fun e => by rw [e]))
theorem grown_below {a b c : World} {g : Nat} (h : a.grownBy b (some g)) (k : Below b.heap.size b c) : a.grownBy c (some g) :=
  grown_then h (grown_of_below k none) (fun j e => by cases e)
theorem grown_refl (a : World) (r : Option Nat) : a.grownBy a r := ⟨rfl, rfl, rfl, Nat.le_refl _, fun _ _ _ => rfl⟩

set_option maxRecDepth 100000 in
set_option maxHeartbeats 1000000 in
theorem names_yes (bc : Nat) (A : Option Addr) (cap n : Nat) (line : Int) (verb : ByteArray) (vn vb : Value) (ws : List ByteArray) (w : World)
    (hb : w.heap[bc]? = some (.cells #[.int .i64 line, .string verb, .slice none 0 0, vn, vb] 37 (0, 0)))
    (hA : Kd.string.C w A ws.length ws) (hc : ws.length ≤ cap) (hfar : ∀ ad, A = some ad → 0 < ws.length → ad.block ≠ bc) (hn : n ≤ ws.length) (hl : ws.length ≤ 4294967296)
    (hsz : ∀ x ∈ ws, x.size ≤ 140737488351232) (hnm : ∀ x ∈ ws.take n, isName x.data.toList = true) :
    Calls Tryz.prog 37 #[.pointer (some ⟨bc, 0, none⟩), .slice A ws.length cap, .int .i64 n] w fun e w' => ∃ A' v, e = .returned (.tuple #[.slice A' (ws.length - n) (cap - n), .bool true]) ∧
      Kd.string.C w' A' (ws.drop n).length (ws.drop n) ∧ (∀ ad, A' = some ad → 0 < (ws.drop n).length → ad.block ≠ bc) ∧ w'.heap[bc]? = some (.cells #[.int .i64 line, .string verb, v, vn, vb] 37 (0, 0)) ∧
      Kd.string.R 9 w' w.heap.size (fun _ => True) v (ws.take n) ∧ w.grownBy w' (some bc) := by
  obtain ⟨A', hcut, hcutC, hcutB⟩ := cutS ws A cap n hn hc
  obtain ⟨i9, hi9, _, _, _⟩ := info_parts info9
  have hto := cut_to (P := Tryz.prog) 33 9 .i64 Tryz.underlying33 hi9 A ws.length cap (n : Int) (Int.natCast_nonneg _) (Int.ofNat_le.2 hn) hc
  rw [Int.toNat_natCast] at hto
  have HS := Lib.hid hsz
  have HM := Lib.hid hnm
  have HF := Lib.hid hfar
  have HC := Lib.hid hcutC
  have HCB := Lib.hid hcutB
  have HA := Lib.hid hA
  have HB := Lib.hid hb
  have hlt : bc < w.heap.size := (Array.getElem?_eq_some_iff.1 hb).1
  clear hsz hnm hfar hcutC hcutB hA hb hi9
  have hln : decide (ws.length < n) = false := decide_eq_false (by omega)
  go_enter Tryz.func37, Tryz.ntmps37
  go_wp2
  go_loopw [18] (fun i wr => ∃ (k : Nat) (v : Value), k ≤ n ∧ i = .int .i64 k ∧ wr.heap[bc]? = some (.cells #[.int .i64 line, .string verb, v, vn, vb] 37 (0, 0)) ∧
      Kd.string.R 9 wr w.heap.size (fun _ => True) v (ws.take k) ∧ w.grownBy wr (some bc)) (fun i _ => n - (intOf i).toNat)
  case atStart => exact ⟨0, _, Nat.zero_le _, rfl, HB.out, Kd.R_nil _ _ _ _ _, grown_refl _ _⟩
  case round =>
    obtain ⟨k, v, hk, rfl, hb, hR, hg⟩ := hrel
    by_cases hkn : k < n
    · have hCr : Kd.string.C wr A ws.length ws := Kd.C_keep ByteArray.empty HA.out (keep_of_grown hg) HF.out
      obtain ⟨ad, rfl, hcell⟩ := Kd.at_string hCr k (by omega) (by omega)
      have hlen : k < ws.length := by omega
      have hx : rdOf ByteArray.empty ws k ∈ ws.take n := by
        unfold rdOf
        rw [Int.toNat_natCast, List.getD_eq_getElem?_getD, List.getElem?_eq_getElem (by omega), Option.getD_some]
        rw [List.mem_take_iff_getElem]
        exact ⟨k, by omega, rfl⟩
      have hnmk := HM.out _ hx
      have hcl := named_any (rdOf ByteArray.empty ws k) wr (HS.out _ (List.mem_of_mem_take hx))
      rw [hnmk] at hcl
      have htk : ws.take (k + 1) = ws.take k ++ [rdOf ByteArray.empty ws k] := by
        rw [List.take_succ_eq_append_getElem (by omega)]
        unfold rdOf
        rw [Int.toNat_natCast, List.getD_eq_getElem?_getD, List.getElem?_eq_getElem (by omega), Option.getD_some]
      rw [Int.toNat_natCast] at hcell
      have HT := Lib.hid htk
      generalize rdOf ByteArray.empty ws k = x at *
      have HCL := Lib.hid hcl
      have HR := Lib.hid hR
      have HG := Lib.hid hg
      have HB2 := Lib.hid hb
      have hkn2 : (k : Int) < (n : Int) := by omega
      clear hcl hR hg hCr hx hnmk htk hb
      have hbase : ∀ j, v.ownBlock = some j → w.heap.size ≤ j := fun j hj => by
        rcases Kd.R_base2 HR.out with h | ⟨q, h, hq⟩
        · rw [h] at hj; cases hj
        · rw [h] at hj; cases hj; exact hq
      have HBA := Lib.hid hbase
      have hltr : bc < wr.heap.size := Nat.lt_of_lt_of_le hlt HG.out.size
      have hsr : w.heap.size ≤ wr.heap.size := HG.out.size
      clear hbase
      go_wp2_with (first | (go_at_call 56; refine HCL.out.mono ?_; rintro e w1 ⟨rfl, hb1⟩; have hbk := (hb1.block bc hltr).trans HB2.out; have c2 : w1.cell? ⟨bc, 2, none⟩ = some v := blk_cell hbk 2; have HBK := Lib.hid hbk; have HB1 := Lib.hid hb1; clear hbk hb1) | (at_builtin; refine Kd.R_append Kd.string (w0 := w1) w.heap.size rfl (.tmp 29) (.tmp 31) 33 9 (.string ⟨#[]⟩) 16 rfl Tryz.underlying33 info9 rfl (by decide) (by omega) v (ws.take k) x [.string x] (fun _ => True) (fun _ => False) rfl rfl ?aP (fun _ hk => hk.elim) ?aF ?aO ?aB ?aS ?aL ?_; (case aP => exact rfl); (case aF => exact (fun _ _ => trivial)); (case aO => exact Kd.R_below HR.out HB1.out); (case aB => exact Below.refl _ _); (case aS => exact (Nat.le_trans hsr HB1.out.size)); (case aL => rw [List.length_take]; omega); intro v1 w2 ho hb2 hg2 hat; obtain ⟨A1, q1, rfl⟩ := Kd.R_slice ho; have hbk2 := blk_grown HBK.out hg2 (fun e => by have := HBA.out bc e.symm; omega); have c2' : w2.cell? ⟨bc, 2, none⟩ = some v := blk_cell hbk2 2; have f2' := blk_frozen hbk2 2; have HBK2 := Lib.hid hbk2; have HO := Lib.hid ho; have HG2 := Lib.hid hg2; have HAT := Lib.hid hat; clear hbk2 ho hg2 hat hb2))
      go_roundw
      case rel =>
        refine ⟨k + 1, _, by omega, by go_num, blk_set HBK2.out 2 _, ?_, ?_⟩
        · rw [HT.out]
          have h := Kd.R_set HO.out HBK2.out (by simp [Kd.string, Kd.scalar]) 2 (.slice A1 (ws.take k ++ [x]).length q1)
          rwa [show (ws.take k ++ [x]).length = min k ws.length + 1 by simp] at h
        · exact grown_then (grown_then (grown_below HG.out HB1.out) HG2.out (fun j hj => .inl (HBA.out j hj))) (grown_set _ _ _ _) (fun j hj => .inr (by injection hj with hj; exact hj.symm))
      case measure => simp [intOf]; omega
    · obtain rfl : k = n := by omega
      have HR := Lib.hid hR
      have HG := Lib.hid hg
      have HB2 := Lib.hid hb
      clear hR hg hb
      go_wp2
      go_ret2
      have hCr : Kd.string.C wr A ws.length ws := Kd.C_keep ByteArray.empty HA.out (keep_of_grown HG.out) HF.out
      refine ⟨A', v, rfl, HC.out wr hCr, fun ad h h0 => ?_, HB2.out, HR.out, HG.out⟩
      obtain ⟨ad0, e0, e1⟩ := HCB.out ad h
      rw [e1]; exact HF.out ad0 e0 (by rw [List.length_drop] at h0; omega)
set_option maxRecDepth 100000 in
set_option maxHeartbeats 1000000 in
theorem names_no (bc : Nat) (A : Option Addr) (cap n : Nat) (line : Int) (verb : ByteArray) (vn vb : Value) (ws : List ByteArray) (w : World)
    (hb : w.heap[bc]? = some (.cells #[.int .i64 line, .string verb, .slice none 0 0, vn, vb] 37 (0, 0)))
    (hA : Kd.string.C w A ws.length ws) (hc : ws.length ≤ cap) (hfar : ∀ ad, A = some ad → 0 < ws.length → ad.block ≠ bc) (hn : n ≤ ws.length) (hl : ws.length ≤ 4294967296)
    (hsz : ∀ x ∈ ws, x.size ≤ 140737488351232) (hnm : ¬ ∀ x ∈ ws.take n, isName x.data.toList = true) :
    Calls Tryz.prog 37 #[.pointer (some ⟨bc, 0, none⟩), .slice A ws.length cap, .int .i64 n] w fun e w' => e = .returned (.tuple #[.slice none 0 0, .bool false]) ∧ w.grownBy w' (some bc) := by
  obtain ⟨i9, hi9, _, _, _⟩ := info_parts info9
  have hto := cut_to (P := Tryz.prog) 33 9 .i64 Tryz.underlying33 hi9 A ws.length cap (n : Int) (Int.natCast_nonneg _) (Int.ofNat_le.2 hn) hc
  rw [Int.toNat_natCast] at hto
  have HS := Lib.hid hsz
  have HM := Lib.hid hnm
  have HF := Lib.hid hfar
  have HA := Lib.hid hA
  have HB := Lib.hid hb
  have hlt : bc < w.heap.size := (Array.getElem?_eq_some_iff.1 hb).1
  clear hsz hnm hfar hA hb hi9
  have hln : decide (ws.length < n) = false := decide_eq_false (by omega)
  go_enter Tryz.func37, Tryz.ntmps37
  go_wp2
  go_loopw [18] (fun i wr => ∃ (k : Nat) (v : Value), k ≤ n ∧ i = .int .i64 k ∧ wr.heap[bc]? = some (.cells #[.int .i64 line, .string verb, v, vn, vb] 37 (0, 0)) ∧
      Kd.string.R 9 wr w.heap.size (fun _ => True) v (ws.take k) ∧ w.grownBy wr (some bc) ∧ Aside0 (∀ x ∈ ws.take k, isName x.data.toList = true)) (fun i _ => n - (intOf i).toNat)
  case atStart => exact ⟨0, _, Nat.zero_le _, rfl, HB.out, Kd.R_nil _ _ _ _ _, grown_refl _ _, ⟨fun x hx => by simp at hx⟩⟩
  case round =>
    obtain ⟨k, v, hk, rfl, hb, hR, hg, HN⟩ := hrel
    by_cases hkn : k < n
    · have hCr : Kd.string.C wr A ws.length ws := Kd.C_keep ByteArray.empty HA.out (keep_of_grown hg) HF.out
      obtain ⟨ad, rfl, hcell⟩ := Kd.at_string hCr k (by omega) (by omega)
      have hlen : k < ws.length := by omega
      have hx : rdOf ByteArray.empty ws k ∈ ws.take n := by
        unfold rdOf
        rw [Int.toNat_natCast, List.getD_eq_getElem?_getD, List.getElem?_eq_getElem (by omega), Option.getD_some]
        rw [List.mem_take_iff_getElem]
        exact ⟨k, by omega, rfl⟩
      have hcl := named_any (rdOf ByteArray.empty ws k) wr (HS.out _ (List.mem_of_mem_take hx))
      have htk : ws.take (k + 1) = ws.take k ++ [rdOf ByteArray.empty ws k] := by
        rw [List.take_succ_eq_append_getElem (by omega)]
        unfold rdOf
        rw [Int.toNat_natCast, List.getD_eq_getElem?_getD, List.getElem?_eq_getElem (by omega), Option.getD_some]
      rw [Int.toNat_natCast] at hcell
      have HT := Lib.hid htk
      generalize rdOf ByteArray.empty ws k = x at *
      have HR := Lib.hid hR
      have HG := Lib.hid hg
      have HB2 := Lib.hid hb
      have hkn2 : (k : Int) < (n : Int) := by omega
      clear hR hg hCr hx htk hb
      have hbase : ∀ j, v.ownBlock = some j → w.heap.size ≤ j := fun j hj => by
        rcases Kd.R_base2 HR.out with h | ⟨q, h, hq⟩
        · rw [h] at hj; cases hj
        · rw [h] at hj; cases hj; exact hq
      have HBA := Lib.hid hbase
      have hltr : bc < wr.heap.size := Nat.lt_of_lt_of_le hlt HG.out.size
      have hsr : w.heap.size ≤ wr.heap.size := HG.out.size
      clear hbase
      by_cases hnmk : isName x.data.toList = true
      · rw [hnmk] at hcl
        have HCL := Lib.hid hcl
        have HNK := Lib.hid hnmk
        clear hcl hnmk
        go_wp2_with (first | (go_at_call 56; refine HCL.out.mono ?_; rintro e w1 ⟨rfl, hb1⟩; have hbk := (hb1.block bc hltr).trans HB2.out; have c2 : w1.cell? ⟨bc, 2, none⟩ = some v := blk_cell hbk 2; have HBK := Lib.hid hbk; have HB1 := Lib.hid hb1; clear hbk hb1) | (at_builtin; refine Kd.R_append Kd.string (w0 := w1) w.heap.size rfl (.tmp 29) (.tmp 31) 33 9 (.string ⟨#[]⟩) 16 rfl Tryz.underlying33 info9 rfl (by decide) (by omega) v (ws.take k) x [.string x] (fun _ => True) (fun _ => False) rfl rfl ?aP (fun _ hk => hk.elim) ?aF ?aO ?aB ?aS ?aL ?_; (case aP => exact rfl); (case aF => exact (fun _ _ => trivial)); (case aO => exact Kd.R_below HR.out HB1.out); (case aB => exact Below.refl _ _); (case aS => exact (Nat.le_trans hsr HB1.out.size)); (case aL => rw [List.length_take]; omega); intro v1 w2 ho hb2 hg2 hat; obtain ⟨A1, q1, rfl⟩ := Kd.R_slice ho; have hbk2 := blk_grown HBK.out hg2 (fun e => by have := HBA.out bc e.symm; omega); have c2' : w2.cell? ⟨bc, 2, none⟩ = some v := blk_cell hbk2 2; have f2' := blk_frozen hbk2 2; have HBK2 := Lib.hid hbk2; have HO := Lib.hid ho; have HG2 := Lib.hid hg2; have HAT := Lib.hid hat; clear hbk2 ho hg2 hat hb2))
        go_roundw
        case rel =>
          refine ⟨k + 1, _, by omega, by go_num, blk_set HBK2.out 2 _, ?_, ?_, ⟨fun y hy => ?_⟩⟩
          · rw [HT.out]
            have h := Kd.R_set HO.out HBK2.out (by simp [Kd.string, Kd.scalar]) 2 (.slice A1 (ws.take k ++ [x]).length q1)
            rwa [show (ws.take k ++ [x]).length = min k ws.length + 1 by simp] at h
          · exact grown_then (grown_then (grown_below HG.out HB1.out) HG2.out (fun j hj => .inl (HBA.out j hj))) (grown_set _ _ _ _) (fun j hj => .inr (by injection hj with hj; exact hj.symm))
          · rw [HT.out, List.mem_append, List.mem_singleton] at hy
            rcases hy with hy | rfl
            · exact HN.out y hy
            · exact HNK.out
        case measure => simp [intOf]; omega
      · simp only [Bool.not_eq_true] at hnmk
        rw [hnmk] at hcl
        have HCL := Lib.hid hcl
        clear hcl hnmk
        go_wp2_with (go_at_call 56; refine HCL.out.mono ?_; rintro e w1 ⟨rfl, hb1⟩)
        go_ret2
        exact ⟨rfl, grown_below HG.out hb1⟩
    · obtain rfl : k = n := by omega
      exact absurd HN.out HM.out
theorem names_short (bc : Nat) (A : Option Addr) (len cap n : Nat) (w : World) (hn : len < n) :
    Calls Tryz.prog 37 #[.pointer (some ⟨bc, 0, none⟩), .slice A len cap, .int .i64 n] w fun e w' => e = .returned (.tuple #[.slice none 0 0, .bool false]) ∧ w' = w := by
  go_enter Tryz.func37, Tryz.ntmps37
  go_wp2
  go_ret2
  exact ⟨rfl, rfl⟩
end Go.Proofs.YtfiacgkhkonilaaGreatDoor

/- The walk of (*Command).numbers: all words are numbers, or one is none. -/
namespace Go.Proofs.YtfiacgkhkonilaaGreatDoor
open Go Go.RowKit Go.Shelf Go.Proofs.YtfiacgkhkonilaaGreatDoorW.PrintWords Go.Proofs.YtfiacgkhkonilaaGreatDoorW.PrintLast Go.Proofs.YtfiacgkhkonilaaGreatDoorW.PrintMore

theorem Env.grown {w w1 : World} {g : Nat} (h : Env w) (hg : w.grownBy w1 (some g)) (hl : 9 ≤ g) : Env w1 := by
  have hb : Below 9 w w1 := ⟨hg.os, hg.tape, hg.output, hg.size, fun k hk => hg.block k (by have := h.size; omega) (fun e => by cases e; omega)⟩
  exact ⟨Nat.le_trans h.size hg.size, var?_below hb g4 (by omega) h.pow, by obtain ⟨tp, p, e⟩ := h.syn; exact ⟨tp, p, var?_below hb g5 (by omega) e⟩, by obtain ⟨tp, p, e⟩ := h.rng; exact ⟨tp, p, var?_below hb g6 (by omega) e⟩, (hb.cell (p := ⟨0, 0, none⟩) (by show 0 < 9; omega)).trans h.typ⟩

set_option maxRecDepth 100000 in
set_option maxHeartbeats 1000000 in
theorem numbers_yes (bc : Nat) (A : Option Addr) (cap : Nat) (line : Int) (verb : ByteArray) (vw vb : Value) (ws : List ByteArray) (ns : List Int) (w : World) (henv : Env w) (h9 : 9 ≤ bc)
    (hb : w.heap[bc]? = some (.cells #[.int .i64 line, .string verb, vw, .slice none 0 0, vb] 37 (0, 0)))
    (hA : Kd.string.C w A ws.length ws) (hfar : ∀ ad, A = some ad → 0 < ws.length → ad.block ≠ bc) (hl : ws.length ≤ 4294967296)
    (hsz : ∀ x ∈ ws, x.size ≤ 140737488351232) (hlen : ns.length = ws.length) (hnm : ∀ k, k < ws.length → numOf (rdOf ByteArray.empty ws k).data.toList = some (rd ns k)) :
    Calls Tryz.prog 40 #[.pointer (some ⟨bc, 0, none⟩), .slice A ws.length cap] w fun e w' => ∃ v, e = .returned (.bool true) ∧
      w'.heap[bc]? = some (.cells #[.int .i64 line, .string verb, vw, v, vb] 37 (0, 0)) ∧
      (Kd.int .i64).R 2 w' w.heap.size (fun _ => True) v ns ∧ w.grownBy w' (some bc) := by
  have HS := Lib.hid hsz
  have HM := Lib.hid hnm
  have HF := Lib.hid hfar
  have HA := Lib.hid hA
  have HB := Lib.hid hb
  have HE := Lib.hid henv
  have HLN := Lib.hid hlen
  have hlt : bc < w.heap.size := (Array.getElem?_eq_some_iff.1 hb).1
  clear hsz hnm hfar hA hb henv hlen
  go_enter Tryz.func40, Tryz.ntmps40
  go_wp2
  go_loopw [11] (fun i wr => ∃ (k : Nat) (v : Value), k ≤ ws.length ∧ i = .int .i64 k ∧ wr.heap[bc]? = some (.cells #[.int .i64 line, .string verb, vw, v, vb] 37 (0, 0)) ∧
      (Kd.int .i64).R 2 wr w.heap.size (fun _ => True) v (ns.take k) ∧ w.grownBy wr (some bc)) (fun i _ => ws.length - (intOf i).toNat)
  case atStart => exact ⟨0, _, Nat.zero_le _, rfl, HB.out, Kd.R_nil _ _ _ _ _, grown_refl _ _⟩
  case round =>
    obtain ⟨k, v, hk, rfl, hb, hR, hg⟩ := hrel
    by_cases hkn : k < ws.length
    · have hCr : Kd.string.C wr A ws.length ws := Kd.C_keep ByteArray.empty HA.out (keep_of_grown hg) HF.out
      obtain ⟨ad, rfl, hcell⟩ := Kd.at_string hCr k (by omega) (by omega)
      have hx : rdOf ByteArray.empty ws k ∈ ws := by
        unfold rdOf
        rw [Int.toNat_natCast, List.getD_eq_getElem?_getD, List.getElem?_eq_getElem (by omega), Option.getD_some]
        exact List.getElem_mem _
      have hcl := number_yes (rdOf ByteArray.empty ws k) (rd ns k) wr (HS.out _ hx) (HE.out.grown hg h9) (HM.out k hkn)
      have htk : ns.take (k + 1) = ns.take k ++ [rd ns k] := by
        rw [List.take_succ_eq_append_getElem (by rw [HLN.out]; exact hkn)]
        unfold rd
        rw [Int.toNat_natCast, List.getD_eq_getElem?_getD, List.getElem?_eq_getElem (by rw [HLN.out]; exact hkn), Option.getD_some]
      rw [Int.toNat_natCast] at hcell
      have HT := Lib.hid htk
      generalize rdOf ByteArray.empty ws k = x at *
      generalize rd ns k = y at *
      have HCL := Lib.hid hcl
      have HR := Lib.hid hR
      have HG := Lib.hid hg
      have HB2 := Lib.hid hb
      have hkn2 : (k : Int) < (ws.length : Int) := by omega
      clear hcl hR hg hCr hx htk hb
      have hbase : ∀ j, v.ownBlock = some j → w.heap.size ≤ j := fun j hj => by
        rcases Kd.R_base2 HR.out with h | ⟨q, h, hq⟩
        · rw [h] at hj; cases hj
        · rw [h] at hj; cases hj; exact hq
      have HBA := Lib.hid hbase
      have hltr : bc < wr.heap.size := Nat.lt_of_lt_of_le hlt HG.out.size
      have hsr : w.heap.size ≤ wr.heap.size := HG.out.size
      have hln2 : (ns.take k).length + 1 ≤ 4294967296 := by rw [List.length_take, HLN.out]; omega
      have HL2 := Lib.hid hln2
      clear hbase hln2
      go_wp2_with (first | (go_at_call 59; refine HCL.out.mono ?_; rintro e w1 ⟨rfl, hb1⟩; have hbk := (hb1.block bc hltr).trans HB2.out; have c2 : w1.cell? ⟨bc, 3, none⟩ = some v := blk_cell hbk 3; have HBK := Lib.hid hbk; have HB1 := Lib.hid hb1; clear hbk hb1) | (at_builtin; refine Kd.R_append (Kd.int .i64) (w0 := w1) w.heap.size rfl (.tmp 26) (.tmp 28) 34 2 (.int .i64 0) 8 rfl Tryz.underlying34 info2 rfl (by decide) (by omega) v (ns.take k) y [.int .i64 y] (fun _ => True) (fun _ => False) rfl rfl ?aP (fun _ hk => hk.elim) ?aF ?aO ?aB ?aS ?aL ?_; (case aP => exact rfl); (case aF => exact (fun _ _ => trivial)); (case aO => exact Kd.R_below HR.out HB1.out); (case aB => exact Below.refl _ _); (case aS => exact (Nat.le_trans hsr HB1.out.size)); (case aL => have := HL2.out; omega); intro v1 w2 ho hb2 hg2 hat; obtain ⟨A1, q1, rfl⟩ := Kd.R_slice ho; have hbk2 := blk_grown HBK.out hg2 (fun e => by have := HBA.out bc e.symm; omega); have c2' : w2.cell? ⟨bc, 3, none⟩ = some v := blk_cell hbk2 3; have f2' := blk_frozen hbk2 3; have HBK2 := Lib.hid hbk2; have HO := Lib.hid ho; have HG2 := Lib.hid hg2; have HAT := Lib.hid hat; clear hbk2 ho hg2 hat hb2))
      go_roundw
      case rel =>
        refine ⟨k + 1, _, by omega, by go_num, blk_set HBK2.out 3 _, ?_, ?_⟩
        · rw [HT.out]
          have h := Kd.R_set HO.out HBK2.out (by simp [Kd.int, Kd.scalar]) 3 (.slice A1 (ns.take k ++ [y]).length q1)
          rwa [show (ns.take k ++ [y]).length = min k ns.length + 1 by simp] at h
        · exact grown_then (grown_then (grown_below HG.out HB1.out) HG2.out (fun j hj => .inl (HBA.out j hj))) (grown_set _ _ _ _) (fun j hj => .inr (by injection hj with hj; exact hj.symm))
      case measure => simp [intOf]; omega
    · obtain rfl : k = ws.length := by omega
      have HR := Lib.hid hR
      have HG := Lib.hid hg
      have HB2 := Lib.hid hb
      clear hR hg hb
      go_wp2
      go_ret
      exact ⟨v, rfl, HB2.out, by have := HR.out; rwa [List.take_of_length_le (by rw [HLN.out]; omega)] at this, HG.out⟩
set_option maxRecDepth 100000 in
set_option maxHeartbeats 1000000 in
theorem numbers_no (bc : Nat) (A : Option Addr) (cap : Nat) (line : Int) (verb : ByteArray) (vw vb : Value) (ws : List ByteArray) (w : World) (henv : Env w) (h9 : 9 ≤ bc)
    (hb : w.heap[bc]? = some (.cells #[.int .i64 line, .string verb, vw, .slice none 0 0, vb] 37 (0, 0)))
    (hA : Kd.string.C w A ws.length ws) (hfar : ∀ ad, A = some ad → 0 < ws.length → ad.block ≠ bc) (hl : ws.length ≤ 4294967296)
    (hsz : ∀ x ∈ ws, x.size ≤ 140737488351232) (hnm : ¬ ∀ k, k < ws.length → (numOf (rdOf ByteArray.empty ws k).data.toList).isSome = true) :
    Calls Tryz.prog 40 #[.pointer (some ⟨bc, 0, none⟩), .slice A ws.length cap] w fun e w' => ∃ v, e = .returned (.bool false) ∧
      w'.heap[bc]? = some (.cells #[.int .i64 line, .string verb, vw, v, vb] 37 (0, 0)) ∧
      (∃ ns, (Kd.int .i64).R 2 w' w.heap.size (fun _ => True) v ns) ∧ w.grownBy w' (some bc) := by
  have HS := Lib.hid hsz
  have HM := Lib.hid hnm
  have HF := Lib.hid hfar
  have HA := Lib.hid hA
  have HB := Lib.hid hb
  have HE := Lib.hid henv
  have hlt : bc < w.heap.size := (Array.getElem?_eq_some_iff.1 hb).1
  clear hsz hnm hfar hA hb henv
  go_enter Tryz.func40, Tryz.ntmps40
  go_wp2
  go_loopw [11] (fun i wr => ∃ (k : Nat) (v : Value), k ≤ ws.length ∧ i = .int .i64 k ∧ wr.heap[bc]? = some (.cells #[.int .i64 line, .string verb, vw, v, vb] 37 (0, 0)) ∧
      (∃ ns : List Int, ns.length = k ∧ (Kd.int .i64).R 2 wr w.heap.size (fun _ => True) v ns) ∧ w.grownBy wr (some bc) ∧ Aside0 (∀ q, q < k → (numOf (rdOf ByteArray.empty ws q).data.toList).isSome = true)) (fun i _ => ws.length - (intOf i).toNat)
  case atStart => exact ⟨0, _, Nat.zero_le _, rfl, HB.out, ⟨[], rfl, Kd.R_nil _ _ _ _ _⟩, grown_refl _ _, ⟨fun q hq => by omega⟩⟩
  case round =>
    obtain ⟨k, v, hk, rfl, hb, ⟨ns, hnsl, hR⟩, hg, HN⟩ := hrel
    by_cases hkn : k < ws.length
    · have hCr : Kd.string.C wr A ws.length ws := Kd.C_keep ByteArray.empty HA.out (keep_of_grown hg) HF.out
      obtain ⟨ad, rfl, hcell⟩ := Kd.at_string hCr k (by omega) (by omega)
      have hx : rdOf ByteArray.empty ws k ∈ ws := by
        unfold rdOf
        rw [Int.toNat_natCast, List.getD_eq_getElem?_getD, List.getElem?_eq_getElem (by omega), Option.getD_some]
        exact List.getElem_mem _
      rw [Int.toNat_natCast] at hcell
      have hxs := HS.out _ hx
      have hen := HE.out.grown hg h9
      have HXS := Lib.hid hxs
      have HEN := Lib.hid hen
      have HNS := Lib.hid hnsl
      have hsm : ∀ (y : Int), numOf (rdOf ByteArray.empty ws k).data.toList = some y → ∀ q, q < k + 1 → (numOf (rdOf ByteArray.empty ws q).data.toList).isSome = true := fun y hy q hq => by
        rcases Nat.lt_succ_iff_lt_or_eq.1 hq with h | rfl
        · exact HN.out q h
        · rw [hy]; rfl
      have HSM := Lib.hid hsm
      generalize rdOf ByteArray.empty ws k = x at *
      have HR := Lib.hid hR
      have HG := Lib.hid hg
      have HB2 := Lib.hid hb
      have hkn2 : (k : Int) < (ws.length : Int) := by omega
      clear hR hg hCr hx hb hxs hen hnsl hsm
      have hbase : ∀ j, v.ownBlock = some j → w.heap.size ≤ j := fun j hj => by
        rcases Kd.R_base2 HR.out with h | ⟨q, h, hq⟩
        · rw [h] at hj; cases hj
        · rw [h] at hj; cases hj; exact hq
      have HBA := Lib.hid hbase
      have hltr : bc < wr.heap.size := Nat.lt_of_lt_of_le hlt HG.out.size
      have hsr : w.heap.size ≤ wr.heap.size := HG.out.size
      have hln2 : ns.length + 1 ≤ 4294967296 := by rw [HNS.out]; omega
      have HL2 := Lib.hid hln2
      clear hbase hln2
      rcases hy : numOf x.data.toList with _ | y
      · have HCL := Lib.hid (number_no x wr HXS.out HEN.out hy)
        clear hy
        go_wp2_with (go_at_call 59; refine HCL.out.mono ?_; rintro e w1 ⟨⟨y, rfl⟩, hb1⟩)
        go_ret
        exact ⟨v, rfl, (hb1.block bc hltr).trans HB2.out, ⟨ns, Kd.R_below HR.out hb1⟩, grown_below HG.out hb1⟩
      · have hcl := number_yes x y wr HXS.out HEN.out hy
        have HCL := Lib.hid hcl
        have HY := Lib.hid hy
        clear hcl hy
        go_wp2_with (first | (go_at_call 59; refine HCL.out.mono ?_; rintro e w1 ⟨rfl, hb1⟩; have hbk := (hb1.block bc hltr).trans HB2.out; have c2 : w1.cell? ⟨bc, 3, none⟩ = some v := blk_cell hbk 3; have HBK := Lib.hid hbk; have HB1 := Lib.hid hb1; clear hbk hb1) | (at_builtin; refine Kd.R_append (Kd.int .i64) (w0 := w1) w.heap.size rfl (.tmp 26) (.tmp 28) 34 2 (.int .i64 0) 8 rfl Tryz.underlying34 info2 rfl (by decide) (by omega) v ns y [.int .i64 y] (fun _ => True) (fun _ => False) rfl rfl ?aP (fun _ hk => hk.elim) ?aF ?aO ?aB ?aS ?aL ?_; (case aP => exact rfl); (case aF => exact (fun _ _ => trivial)); (case aO => exact Kd.R_below HR.out HB1.out); (case aB => exact Below.refl _ _); (case aS => exact (Nat.le_trans hsr HB1.out.size)); (case aL => have := HL2.out; omega); intro v1 w2 ho hb2 hg2 hat; obtain ⟨A1, q1, rfl⟩ := Kd.R_slice ho; have hbk2 := blk_grown HBK.out hg2 (fun e => by have := HBA.out bc e.symm; omega); have c2' : w2.cell? ⟨bc, 3, none⟩ = some v := blk_cell hbk2 3; have f2' := blk_frozen hbk2 3; have HBK2 := Lib.hid hbk2; have HO := Lib.hid ho; have HG2 := Lib.hid hg2; have HAT := Lib.hid hat; clear hbk2 ho hg2 hat hb2))
        go_roundw
        case rel =>
          refine ⟨k + 1, _, by omega, by go_num, blk_set HBK2.out 3 _, ⟨ns ++ [y], by rw [List.length_append, HNS.out]; rfl, ?_⟩, ?_, ⟨HSM.out y HY.out⟩⟩
          · have h := Kd.R_set HO.out HBK2.out (by simp [Kd.int, Kd.scalar]) 3 (.slice A1 (ns ++ [y]).length q1)
            rwa [show (ns ++ [y]).length = ns.length + 1 by simp] at h
          · exact grown_then (grown_then (grown_below HG.out HB1.out) HG2.out (fun j hj => .inl (HBA.out j hj))) (grown_set _ _ _ _) (fun j hj => .inr (by injection hj with hj; exact hj.symm))
        case measure => simp [intOf]; omega
    · obtain rfl : k = ws.length := by omega
      exact absurd HN.out HM.out
end Go.Proofs.YtfiacgkhkonilaaGreatDoor
