/- Part 4 of a proof: RefLaws, AnyIn, Err, Parse -/
import Derived.Test.YtfiacgkhkonilaaGreatDoorReadsPart3
import Derived.Test.YtfiacgkhkonilaaGreatDoorPNamex1
import Derived.Test.YtfiacgkhkonilaaGreatDoorPdigitx1
import Derived.Test.YtfiacgkhkonilaaGreatDoorPNumberx1
import Derived.Test.YtfiacgkhkonilaaGreatDoorPwordsx1
import Derived.Lib.Hide
/- The document's small functions, as printed, in the words of the plain definitions; no walk. -/
namespace Go.Proofs.YtfiacgkhkonilaaGreatDoor
open Go Go.RowKit Go.Lib Go.Proofs.YtfiacgkhkonilaaGreatDoorW.PrintWords
open Go.Proofs.YtfiacgkhkonilaaGreatDoor.PName Go.Proofs.YtfiacgkhkonilaaGreatDoor.Pdigit Go.Proofs.YtfiacgkhkonilaaGreatDoor.PNumber Go.Proofs.YtfiacgkhkonilaaGreatDoor.Pwords

theorem bt_nat (s : ByteArray) (k : Nat) (h : k < s.size) : bt s (k : Int) = ((s.data.toList.getD k 0).toNat : Int) := by
  unfold bt
  rw [dif_pos (by rw [Int.toNat_natCast]; exact h)]
  have hsz := size_eq s
  rw [List.getD_eq_getElem?_getD, List.getElem?_eq_getElem (by omega), Option.getD_some]
  simp [ByteArray.getElem_eq_getElem_data]
theorem wrap_in (x : Int) (h : -9223372036854775808 ≤ x ∧ x ≤ 9223372036854775807) : wrap64 x = x := by unfold wrap64; omega
theorem wrap_succ (k : Nat) (h : k < 9223372036854775807) : wrap64 ((k : Int) + 1) = ((k + 1 : Nat) : Int) := by rw [wrap_in]; omega; omega
theorem drop_cons' (l : B) (k : Nat) (h : k < l.length) : l.drop k = l.getD k 0 :: l.drop (k + 1) := by
  rw [List.drop_eq_getElem_cons h, List.getD_eq_getElem?_getD, List.getElem?_eq_getElem h, Option.getD_some]

/-! ### Name -/
def small (c : UInt8) : Bool := decide (97 ≤ c.toNat) && decide (c.toNat ≤ 122)
theorem name_false (s : ByteArray) (m : Nat) (i : Int) : radomeref40_Name.l0 (m + 1) s false i = some false := by
  unfold radomeref40_Name.l0
  split
  · rw [if_neg (by simp)]
  · rfl
theorem name_loop (s : ByteArray) (hs : s.size ≤ 16) : ∀ (m k : Nat), k ≤ s.size → s.size - k < m → radomeref40_Name.l0 (m + 1) s true k = some ((s.data.toList.drop k).all small)
  | 0, k, _, h => absurd h (Nat.not_lt_zero _)
  | m + 1, k, hk, h => by
    have hsz := size_eq s
    unfold radomeref40_Name.l0
    by_cases h1 : k < s.size
    · rw [if_pos (by omega), if_pos rfl, if_pos (by omega), bt_nat s k h1, drop_cons' _ _ (by omega), List.all_cons, wrap_succ k (by omega)]
      by_cases h2 : 97 ≤ (s.data.toList.getD k 0).toNat
      · rw [if_pos (by omega)]
        by_cases h3 : (s.data.toList.getD k 0).toNat ≤ 122
        · rw [decide_eq_true (by omega), name_loop s hs m (k + 1) (by omega) (by omega)]
          simp only [small, decide_eq_true h2, decide_eq_true h3, Bool.and_self, Bool.true_and]
        · rw [decide_eq_false (by omega), name_false]
          simp only [small, decide_eq_false h3, Bool.and_false, Bool.false_and]
      · rw [if_neg (by omega), name_false]
        simp only [small, decide_eq_false h2, Bool.false_and]
    · rw [if_neg (by omega), List.drop_eq_nil_of_le (by omega)]
      rfl
theorem name_law (s : ByteArray) : radomeref40_Name.f 20 s = some (isName s.data.toList) := by
  have hsz := size_eq s
  unfold radomeref40_Name.f isName
  by_cases h1 : 1 ≤ s.size
  · rw [if_pos (by omega)]
    unfold radomeref40_Name.j0
    show radomeref40_Name.l0 (18 + 1) s _ 0 = _
    rw [decide_eq_true (show 1 ≤ s.data.toList.length by omega)]
    by_cases h2 : s.size ≤ 16
    · rw [decide_eq_true (by omega), decide_eq_true (show s.data.toList.length ≤ 16 by omega)]
      have := name_loop s h2 18 0 (by omega) (by omega)
      rw [show ((0 : Nat) : Int) = 0 from rfl] at this
      rw [this]; rfl
    · rw [decide_eq_false (by omega), decide_eq_false (show ¬ s.data.toList.length ≤ 16 by omega), name_false]; rfl
  · rw [if_neg (by omega)]
    unfold radomeref40_Name.j0
    show radomeref40_Name.l0 (18 + 1) s _ 0 = _
    rw [name_false, decide_eq_false (show ¬ 1 ≤ s.data.toList.length by omega)]; rfl

/-! ### digit -/
theorem digit_law (c : UInt8) : radomeref40_digit.f 20 (c.toNat : Int) = some (hexVal c) := by
  have h : ∀ n : Nat, n < 256 → radomeref40_digit.f 20 (n : Int) = some (hexVal (UInt8.ofNat n)) := by decide +kernel
  have := h c.toNat c.toNat_lt
  rwa [UInt8.ofNat_toNat] at this

/-! ### Number -/
def ans : Option Int → Int × Bool
  | some v => (v, true)
  | none => (0, false)
def fin (minus : Bool) (v : Nat) : Option Int := if 9223372036854775808 < v ∨ (v = 9223372036854775808 ∧ minus = false) then none else some (if minus then -(v : Int) else v)
theorem number_end (minus : Bool) (m v : Nat) (hv : v < 18446744073709551616) :
    (if (v : Int) > 9223372036854775808 then (radomeref40_Number.j4 (m + 1) minus v true) else (if (v : Int) = 9223372036854775808 then (radomeref40_Number.j4 (m + 1) minus v (!minus)) else (radomeref40_Number.j4 (m + 1) minus v false))) = some (ans (fin minus v)) := by
  have hj : ∀ b, radomeref40_Number.j4 (m + 1) minus v b = if b = true then (some (0, false)) else (if minus = true then (some (wrap64 (IntKind.u64.wrap (-(v : Int))), true)) else (some (wrap64 (v : Int), true))) := fun b => by unfold radomeref40_Number.j4; rfl
  have hneg : v ≤ 9223372036854775808 → wrap64 (IntKind.u64.wrap (-(v : Int))) = -(v : Int) := fun h => by
    rw [IntKind.wrap_u64]; unfold wrap64; omega
  by_cases h1 : 9223372036854775808 < v
  · have e : fin minus v = none := by unfold fin; rw [if_pos (Or.inl h1)]
    rw [if_pos (by omega), hj, if_pos rfl, e]; rfl
  · rw [if_neg (by omega)]
    by_cases h2 : v = 9223372036854775808
    · rw [if_pos (by omega), hj]
      cases minus
      · have e : fin false v = none := by unfold fin; rw [if_pos (Or.inr ⟨h2, rfl⟩)]
        rw [e]; rfl
      · have e : fin true v = some (-(v : Int)) := by
          unfold fin; rw [if_neg]; rfl
          rintro (h | ⟨_, h⟩)
          · exact h1 h
          · cases h
        rw [if_neg (by simp), if_pos rfl, hneg (by omega), e]; rfl
    · rw [if_neg (by omega), hj, if_neg (by simp)]
      have e : fin minus v = some (if minus then -(v : Int) else v) := by
        unfold fin; rw [if_neg]
        rintro (h | ⟨h, _⟩)
        · exact h1 h
        · exact h2 h
      rw [e]
      cases minus
      · rw [if_neg (by simp), wrap_in _ (by omega)]; rfl
      · rw [if_pos rfl, hneg (by omega)]; rfl
theorem allDig_take (l : B) (k : Nat) (h : allDig l = true) : allDig (l.take k) = true := by
  unfold allDig at *
  rw [List.all_eq_true] at *
  exact fun x hx => h x (List.mem_of_mem_take hx)
theorem number_loop (minus : Bool) (t : ByteArray) (hs : t.size ≤ 19) : ∀ (m k : Nat), k ≤ t.size → t.size - k < m → allDig (t.data.toList.take k) = true →
    radomeref40_Number.l0 (m + 1) minus t (dval 0 (t.data.toList.take k) : Nat) k = some (if allDig (t.data.toList.drop k) = true then ans (fin minus (dval 0 t.data.toList)) else (0, false))
  | 0, k, _, h, _ => absurd h (Nat.not_lt_zero _)
  | m + 1, k, hk, h, ha => by
    have hsz := size_eq t
    have hlt := dval_lt _ ha
    have hlen : (t.data.toList.take k).length = k := by rw [List.length_take]; omega
    rw [hlen] at hlt
    unfold radomeref40_Number.l0
    by_cases h1 : k < t.size
    · have htk : t.data.toList.take (k + 1) = t.data.toList.take k ++ [t.data.toList.getD k 0] := by
        rw [List.take_succ_eq_append_getElem (by omega), List.getD_eq_getElem?_getD, List.getElem?_eq_getElem (by omega), Option.getD_some]
      rw [if_pos (by omega), if_pos (by omega), bt_nat t k h1, drop_cons' _ _ (by omega)]
      have hd : allDig (t.data.toList.getD k 0 :: t.data.toList.drop (k + 1)) = (isDig (t.data.toList.getD k 0) && allDig (t.data.toList.drop (k + 1))) := rfl
      rw [hd]
      by_cases h2 : (t.data.toList.getD k 0).toNat < 48
      · rw [if_pos (by omega)]
        have : isDig (t.data.toList.getD k 0) = false := by simp only [isDig, decide_eq_false (show ¬ 48 ≤ (t.data.toList.getD k 0).toNat by omega), Bool.false_and]
        rw [this]; rfl
      · rw [if_neg (by omega)]
        by_cases h3 : 57 < (t.data.toList.getD k 0).toNat
        · rw [if_pos (by omega)]
          have : isDig (t.data.toList.getD k 0) = false := by simp only [isDig, decide_eq_false (show ¬ (t.data.toList.getD k 0).toNat ≤ 57 by omega), Bool.and_false]
          rw [this]; rfl
        · rw [if_neg (by omega)]
          have hdg : isDig (t.data.toList.getD k 0) = true := by simp only [isDig, decide_eq_true (show 48 ≤ (t.data.toList.getD k 0).toNat by omega), decide_eq_true (show (t.data.toList.getD k 0).toNat ≤ 57 by omega), Bool.and_self]
          have ha2 : allDig (t.data.toList.take (k + 1)) = true := by
            rw [htk]; unfold allDig at *; rw [List.all_append, ha, List.all_cons, hdg]; rfl
          have hpow : 10 ^ k ≤ 1000000000000000000 := by
            have := Nat.pow_le_pow_right (n := 10) (by omega) (show k ≤ 18 by omega)
            have e : (10 : Nat) ^ 18 = 1000000000000000000 := by decide
            omega
          have hv : IntKind.u64.wrap (IntKind.u64.wrap (10 * ((dval 0 (t.data.toList.take k) : Nat) : Int)) + ((((t.data.toList.getD k 0).toNat : Int) - 48) % 256)) = ((dval 0 (t.data.toList.take (k + 1)) : Nat) : Int) := by
            rw [htk, dval_app, dval_cons, dval_nil, IntKind.wrap_u64, IntKind.wrap_u64]
            have := (t.data.toList.getD k 0).toNat_lt
            omega
          rw [hv, wrap_succ k (by omega), number_loop minus t hs m (k + 1) (by omega) (by omega) ha2, hdg, Bool.true_and]
    · have hk2 : k = t.size := by omega
      have e : t.data.toList.take k = t.data.toList := List.take_of_length_le (by omega)
      rw [e] at ha hlt ⊢
      rw [if_neg (by omega), List.drop_eq_nil_of_le (by omega)]
      have hpow : 10 ^ k ≤ 10000000000000000000 := by
        have := Nat.pow_le_pow_right (n := 10) (by omega) (show k ≤ 19 by omega)
        have e : (10 : Nat) ^ 19 = 10000000000000000000 := by decide
        omega
      rw [number_end minus m _ (by omega)]
      rfl
def numT (minus : Bool) (t : B) : Option Int :=
  if t = [] ∨ 19 < t.length ∨ (t.head? = some 48 ∧ (1 < t.length ∨ minus = true)) then none
  else if allDig t = false then none else fin minus (dval 0 t)
theorem refNum_eq (w : B) : refNum w = numT (decide (1 < w.length) && decide (w.head? = some 45)) (if (decide (1 < w.length) && decide (w.head? = some 45)) = true then w.tail else w) := rfl
theorem number_j1 (minus : Bool) (t : ByteArray) : radomeref40_Number.j1 40 minus t = some (ans (numT minus t.data.toList)) := by
  have hsz := size_eq t
  have hl := toList_data t
  have yes : ∀ m, radomeref40_Number.j2 (m + 1) minus t true = some (0, false) := fun m => by unfold radomeref40_Number.j2; rfl
  unfold radomeref40_Number.j1
  dsimp only
  rw [hl]
  by_cases h1 : t.data.toList = []
  · have e : numT minus t.data.toList = none := by unfold numT; rw [if_pos (Or.inl h1)]
    rw [if_pos h1, yes, e]; rfl
  · rw [if_neg h1]
    have hpos : 0 < t.data.toList.length := List.length_pos_iff.2 h1
    by_cases h2 : 19 < t.size
    · have e : numT minus t.data.toList = none := by unfold numT; rw [if_pos (Or.inr (Or.inl (by omega)))]
      rw [if_pos (by omega), yes, e]; rfl
    · rw [if_neg (by omega), if_pos (by omega)]
      have hb : bt t 0 = ((t.data.toList.getD 0 0).toNat : Int) := bt_nat t 0 (by omega)
      have hh : t.data.toList.head? = some (t.data.toList.getD 0 0) := by
        cases hc : t.data.toList with
        | nil => exact absurd hc h1
        | cons a r => rfl
      have go : radomeref40_Number.j2 39 minus t false = some (ans (if allDig t.data.toList = false then none else fin minus (dval 0 t.data.toList))) := by
        unfold radomeref40_Number.j2
        dsimp only
        rw [if_neg (by simp)]
        have := number_loop minus t (by omega) 37 0 (by omega) (by omega) rfl
        rw [List.take_zero, List.drop_zero, dval_nil, show ((0 : Nat) : Int) = 0 from rfl] at this
        rw [this]
        cases allDig t.data.toList <;> rfl
      by_cases h3 : t.data.toList.getD 0 0 = 48
      · rw [hb, h3, if_pos (show (((48 : UInt8).toNat : Nat) : Int) = 48 from rfl)]
        by_cases h4 : 1 < t.size
        · have e : numT minus t.data.toList = none := by unfold numT; rw [if_pos (Or.inr (Or.inr ⟨by rw [hh, h3], Or.inl (by omega)⟩))]
          rw [if_pos (by omega), yes, e]; rfl
        · rw [if_neg (by omega)]
          cases minus
          · have e : numT false t.data.toList = if allDig t.data.toList = false then none else fin false (dval 0 t.data.toList) := by
              unfold numT
              rw [if_neg (c := t.data.toList = [] ∨ _)]
              rintro (h | h | ⟨_, h | h⟩)
              · exact h1 h
              · omega
              · omega
              · cases h
            rw [go, e]
          · have e : numT true t.data.toList = none := by unfold numT; rw [if_pos (Or.inr (Or.inr ⟨by rw [hh, h3], Or.inr rfl⟩))]
            rw [yes, e]; rfl
      · have h3' : ((t.data.toList.getD 0 0).toNat : Int) ≠ 48 := fun e => h3 (UInt8.toNat.inj (by have : (48 : UInt8).toNat = 48 := rfl; omega))
        have e : numT minus t.data.toList = if allDig t.data.toList = false then none else fin minus (dval 0 t.data.toList) := by
          unfold numT
          rw [if_neg (c := t.data.toList = [] ∨ _)]
          rintro (h | h | ⟨h, _⟩)
          · exact h1 h
          · omega
          · rw [hh] at h; exact h3 (Option.some.inj h)
        rw [hb, if_neg h3', go, e]
theorem number_law (s : ByteArray) : radomeref40_Number.f 41 s = some (ans (numOf s.data.toList)) := by
  have hsz := size_eq s
  rw [numOf_ref, refNum_eq]
  unfold radomeref40_Number.f
  by_cases h1 : 1 < s.size
  · have hh : s.data.toList.head? = some (s.data.toList.getD 0 0) := by
      cases hc : s.data.toList with
      | nil => rw [hc, List.length_nil] at hsz; omega
      | cons a r => rfl
    have hb : bt s 0 = ((s.data.toList.getD 0 0).toNat : Int) := bt_nat s 0 (by omega)
    rw [if_pos (by omega), if_pos (by omega), hb, decide_eq_true (show 1 < s.data.toList.length by omega), Bool.true_and, hh]
    unfold radomeref40_Number.j0
    dsimp only
    by_cases h2 : s.data.toList.getD 0 0 = 45
    · rw [h2, show (((45 : UInt8).toNat : Int) == 45) = true from rfl, show decide (some (45 : UInt8) = some 45) = true from rfl, if_pos rfl, if_pos (by omega), number_j1]
      have e : (s.extract 1 s.size).data.toList = s.data.toList.tail := by
        rw [extract_mk, mk_data, List.take_of_length_le (by omega), List.drop_one]
      rw [e]; rfl
    · have h2' : (((s.data.toList.getD 0 0).toNat : Int) == 45) = false := by
        rw [beq_eq_false_iff_ne]; exact fun e => h2 (UInt8.toNat.inj (by have : (45 : UInt8).toNat = 45 := rfl; omega))
      have h2'' : decide (some (s.data.toList.getD 0 0) = some (45 : UInt8)) = false := decide_eq_false (fun e => h2 (Option.some.inj e))
      rw [h2', h2'', if_neg (by simp), number_j1]; rfl
  · rw [if_neg (by omega), decide_eq_false (show ¬ 1 < s.data.toList.length by omega), Bool.false_and]
    unfold radomeref40_Number.j0
    dsimp only
    rw [if_neg (by simp), number_j1]; rfl

/-! ### words -/
theorem blank41 (c : UInt8) : radomeref40_blank.f (c.toNat : Int) = some (isBlank c) := by
  have h : ∀ n : Nat, n < 256 → radomeref40_blank.f (n : Int) = some (isBlank (UInt8.ofNat n)) := by decide +kernel
  have := h c.toNat c.toNat_lt
  rwa [UInt8.ofNat_toNat] at this
theorem noteCut_nil : noteCut [] = [] := rfl
theorem noteCut_note (r : B) : noteCut (37 :: r) = [] := rfl
theorem noteCut_cons (c : UInt8) (r : B) (h : c ≠ 37) : noteCut (c :: r) = c :: noteCut r := by
  unfold noteCut; rw [List.takeWhile_cons_of_pos (by simpa using h)]
theorem words_loop (s : ByteArray) (hs : s.size < 8796093022208) : ∀ (d k : Nat) (acc : List ByteArray) (cur : B), k + d = s.size → acc.length ≤ k → cur.length ≤ k →
    radomeref40_words.l0 (2 * d + 3) s acc (mk cur) k = some (acc ++ (fieldsGo cur (noteCut (s.data.toList.drop k))).map mk)
  | 0, k, acc, cur, hk, ha, hc => by
    have hsz := size_eq s
    have hcl : (mk cur).toList = cur := by rw [toList_data, mk_data]
    have e : s.data.toList.drop k = [] := List.drop_eq_nil_of_le (by omega)
    show radomeref40_words.l0 (2 + 1) s acc (mk cur) k = _
    unfold radomeref40_words.l0
    rw [if_pos (by omega), if_neg (by omega), e]
    show radomeref40_words.j1 (1 + 1) s acc (mk cur) k false = _
    unfold radomeref40_words.j1
    rw [if_neg (by simp), hcl]
    have stop : ∀ acc, radomeref40_words.l0 (0 + 1) s acc ⟨#[]⟩ (wrap64 ((k : Int) + 1)) = some acc := fun acc => by
      unfold radomeref40_words.l0
      rw [wrap_succ k (by omega), if_neg (by omega)]
    by_cases h2 : cur = []
    · rw [if_pos h2, if_neg (by omega), stop, h2]
      simp [noteCut_nil, fieldsGo]
    · rw [if_neg h2, if_pos (by omega)]
      simp only [Option.bind_some]
      rw [if_neg (by omega), stop]
      simp [noteCut_nil, fieldsGo, h2]
  | d + 1, k, acc, cur, hk, ha, hc => by
    have hsz := size_eq s
    have hcl : (mk cur).toList = cur := by rw [toList_data, mk_data]
    have hkl : k < s.size := by omega
    rw [show 2 * (d + 1) + 3 = (2 * d + 3 + 1) + 1 by omega]
    unfold radomeref40_words.l0
    rw [if_pos (by omega), if_pos (by omega), if_pos (by omega), bt_nat s k hkl, drop_cons' _ _ (by omega)]
    have hx : s.extract k (k + 1) = mk [s.data.toList.getD k 0] := by
      rw [extract_mk, List.drop_take, drop_cons' _ _ (by omega)]
      simp
    have hbt := bt_nat s k hkl
    generalize s.data.toList.getD k 0 = c at *
    rw [blank41]
    simp only [Option.bind_some]
    have rest : ∀ acc', acc'.length ≤ k + 1 → radomeref40_words.l0 (2 * d + 3) s acc' ⟨#[]⟩ (wrap64 ((k : Int) + 1)) = some (acc' ++ (fieldsGo [] (noteCut (s.data.toList.drop (k + 1)))).map mk) := fun acc' h => by
      rw [wrap_succ k (by omega)]
      exact words_loop s hs d (k + 1) acc' [] (by omega) h (by simp)
    -- behind a blank or a note
    have after : radomeref40_words.j1 (2 * d + 3 + 1) s acc (mk cur) k false = (if cur = [] then (if ((c.toNat : Nat) : Int) = 37 then some acc else radomeref40_words.l0 (2 * d + 3) s acc ⟨#[]⟩ (wrap64 ((k : Int) + 1))) else
        (if ((c.toNat : Nat) : Int) = 37 then some (acc ++ [mk cur]) else radomeref40_words.l0 (2 * d + 3) s (acc ++ [mk cur]) ⟨#[]⟩ (wrap64 ((k : Int) + 1)))) := by
      unfold radomeref40_words.j1
      rw [if_neg (by simp), hcl, hbt]
      by_cases h2 : cur = []
      · rw [if_pos h2, if_pos h2, if_pos (by omega), if_pos (by omega)]
      · rw [if_neg h2, if_neg h2, if_pos (by omega)]
        simp only [Option.bind_some]
        rw [if_pos (by omega), if_pos (by omega)]
    by_cases hb : isBlank c = true
    · have hc37 : c ≠ 37 := fun e => by subst e; revert hb; decide
      have hc37' : ¬ ((c.toNat : Nat) : Int) = 37 := fun e => hc37 (UInt8.toNat.inj (by have : (37 : UInt8).toNat = 37 := rfl; omega))
      rw [hb, if_pos rfl, after, noteCut_cons _ _ hc37, fieldsGo, if_pos hb]
      by_cases h2 : cur = []
      · rw [if_pos h2, if_pos h2, if_neg hc37', rest acc (by omega)]
      · rw [if_neg h2, if_neg h2, if_neg hc37', rest _ (by rw [List.length_append, List.length_singleton]; omega), List.map_cons, List.append_assoc]; rfl
    · rw [if_neg hb]
      show radomeref40_words.j1 (2 * d + 3 + 1) s acc (mk cur) k (((c.toNat : Nat) : Int) != 37) = _
      by_cases h37 : c = 37
      · subst h37
        rw [show (((37 : UInt8).toNat : Int) != 37) = false from rfl, after, noteCut_note, fieldsGo]
        by_cases h2 : cur = []
        · rw [if_pos h2, if_pos (show (((37 : UInt8).toNat : Nat) : Int) = 37 from rfl), if_pos h2]; simp
        · rw [if_neg h2, if_pos (show (((37 : UInt8).toNat : Nat) : Int) = 37 from rfl), if_neg h2]; simp
      · have h37' : (((c.toNat : Nat) : Int) != 37) = true := by
          rw [bne_iff_ne]; exact fun e => h37 (UInt8.toNat.inj (by have : (37 : UInt8).toNat = 37 := rfl; omega))
        rw [h37', noteCut_cons _ _ h37, fieldsGo, if_neg hb]
        unfold radomeref40_words.j1
        rw [if_pos rfl, if_pos (by omega), wrap_succ k (by omega), if_pos (by omega), if_pos (by omega)]
        have hx' : s.extract (k : Int).toNat (((k + 1 : Nat) : Int)).toNat = mk [c] := by rw [Int.toNat_natCast, Int.toNat_natCast]; exact hx
        rw [hx', if_pos (by rw [mk_size, mk_size]; simp; omega)]
        have hap : mk cur ++ mk [c] = mk (cur ++ [c]) := by
          apply of_mk
          rw [ByteArray.data_append, Array.toList_append, mk_data, mk_data]
        rw [hap]
        exact words_loop s hs d (k + 1) acc (cur ++ [c]) (by omega) (by omega) (by simp; omega)
theorem words_law (s : ByteArray) (hs : s.size < 8796093022208) : radomeref40_words.f (2 * s.size + 3) s = some ((wordsOf s.data.toList).map mk) := by
  have := words_loop s hs s.size 0 [] [] (by omega) (by simp) (by simp)
  rw [List.nil_append, List.drop_zero] at this
  exact this
end Go.Proofs.YtfiacgkhkonilaaGreatDoor

/- A region that draws its order, within a round of a range over a function: opened, one goal for each operation that may come next; no program in sight. -/
namespace Go.Proofs.YtfiacgkhkonilaaGreatDoor
open Go Go.RowKit
variable {F : Fence} {n : Nat} {P : Program} {ops : Array Oper} {md : Region.Mode} {Q : Exit → Act → World → Prop} {a : Act} {w : World}

theorem wpAnyIn_branch {fuel : Nat} {listed : Array Bool} (rs : List Nat) (hr : Region.ready md ops listed = rs) (hne : rs.isEmpty = false)
    (h : ∀ i ∈ rs, wpOpIn F n P ops Q i (wpAnyIn F n P md ops Q fuel (listed.setIfInBounds i true)) a w) : wpAnyIn F n P md ops Q (fuel + 1) listed a w := by
  refine ⟨fun h0 => ?_, fun i hi => h i (hr ▸ hi)⟩
  rw [hr] at h0; subst h0; cases hne
theorem wpAnyIn_end {fuel : Nat} {listed : Array Bool} (hr : Region.ready md ops listed = []) (h : Q .normal a w) : wpAnyIn F n P md ops Q fuel listed a w := by
  cases fuel with
  | zero => exact ⟨hr, h⟩
  | succ k => exact ⟨fun _ => h, fun i hi => by rw [hr] at hi; cases hi⟩
theorem wpOpIn_of {i : Nat} {o : Oper} {K : Act → World → Prop} (hi : ops[i]? = some o) (hd : noDefer o = true) (hw : Region.wanted o (yielded ops a.tmps) = true)
    (hab : ∀ f, o.about P w a.eval = some f → F.fn f) (h : ∀ K' : Act → World → Prop, Hid (∀ a w, K a w → K' a w) → o.uponIn F n P a K' Q ((execOp a.eval o).run P w)) : wpOpIn F n P ops Q i K a w := by
  have h := h K (fun _ _ h => h)
  unfold wpOpIn
  simp only [hi, hw, if_true]
  unfold Oper.wpIn
  refine ⟨hab, ?_⟩
  rw [Oper.semAt_plain F _ _ (noDefer_ne hd)]
  exact h
end Go.Proofs.YtfiacgkhkonilaaGreatDoor

/- The way out of Parse at a line that is wrong: a region that draws its order, within a round. -/
namespace Go.Proofs.YtfiacgkhkonilaaGreatDoor
open Go Go.RowKit Go.Shelf Go.Proofs.YtfiacgkhkonilaaGreatDoorW.PrintWords Go.Proofs.YtfiacgkhkonilaaGreatDoorW.PrintLast Go.Proofs.YtfiacgkhkonilaaGreatDoorW.PrintMore

def ops13 : Array Oper := #[{ dst := some 38, op := Op.load 3 (Operand.tmp 6), type := 3, pos := "script.go:165", after := #[], guard := none }, { dst := some 39, op := Op.makeInterface 47 (Operand.const (Value.int IntKind.i64 337)), type := 25, pos := "script.go:165", after := #[{ on := 3, ground := Ground.gcOnly Departure.lateStores }], guard := none }, { dst := none, op := Op.store 23 (Operand.tmp 2) (Operand.const (Value.slice none 0 0)), type := 0, pos := "script.go:165", after := #[{ on := 0, ground := Ground.textOnly Departure.inlinedCapture }, { on := 1, ground := Ground.textOnly Departure.lateStores }], guard := none }, { dst := none, op := Op.store 3 (Operand.tmp 3) (Operand.tmp 38), type := 0, pos := "script.go:165", after := #[{ on := 0, ground := Ground.data }, { on := 2, ground := Ground.chain }, { on := 0, ground := Ground.phase }, { on := 1, ground := Ground.textOnly Departure.lateStores }, { on := 2, ground := Ground.phase }], guard := none }, { dst := none, op := Op.store 25 (Operand.tmp 4) (Operand.tmp 39), type := 0, pos := "script.go:165", after := #[{ on := 1, ground := Ground.data }, { on := 3, ground := Ground.chain }, { on := 0, ground := Ground.phase }, { on := 1, ground := Ground.phase }, { on := 2, ground := Ground.phase }, { on := 3, ground := Ground.phase }], guard := none }]

structure St (D : Nat) (k : Int) (B : Nat) (W0 : World) (v38 v39 s3 s4 : Bool) (a : Act) (W : World) : Prop where
  n : 40 ≤ a.tmps.size
  t2 : a.eval (.tmp 2) = .pointer (some ⟨D, 0, none⟩)
  t3 : a.eval (.tmp 3) = .pointer (some ⟨D + 1, 0, none⟩)
  t4 : a.eval (.tmp 4) = .pointer (some ⟨D + 2, 0, none⟩)
  t6 : a.eval (.tmp 6) = .pointer (some ⟨D + 4, 0, none⟩)
  e38 : v38 = true → a.eval (.tmp 38) = .int .i64 k
  e39 : v39 = true → a.eval (.tmp 39) = .iface 47 (.int .i64 337)
  r0 : W.heap[D]? = some (.cells #[.slice none 0 0] 23 (0, 0))
  r1 : ∃ x, W.heap[D + 1]? = some (.cells #[x] 3 (0, 0)) ∧ (s3 = true → x = .int .i64 k)
  r2 : ∃ x, W.heap[D + 2]? = some (.cells #[x] 25 (0, 0)) ∧ (s4 = true → x = .iface 47 (.int .i64 337))
  lin : W.heap[D + 4]? = some (.cells #[.int .i64 k] 3 (0, 0))
  keeps : KeepsOthers W0 W
  below : Below B W0 W

variable {F : Fence} {n : Nat} {D : Nat} {k : Int} {B : Nat} {W0 : World} {v38 v39 s3 s4 : Bool} {a : Act} {W : World} {Q : Exit → Act → World → Prop} {K : Act → World → Prop}

theorem eval_same {a : Act} {d : Nat} {v : Value} (h : d < a.tmps.size) : (a.put (some d) v).eval (.tmp d) = v := by
  simp [Act.put, Act.eval, Array.getD_eq_getD_getElem?, h]
theorem eval_other {a : Act} {d e : Nat} {v : Value} (h : d ≠ e) : (a.put (some d) v).eval (.tmp e) = a.eval (.tmp e) := Act.eval_put (fun d' hd => by cases hd; intro h'; cases h'; exact h rfl)

theorem st_38 (h : St D k B W0 v38 v39 s3 s4 a W) : St D k B W0 true v39 s3 s4 (a.put (some 38) (.int .i64 k)) W :=
  ⟨by simpa [Act.put] using h.n, (eval_other (by decide)).trans h.t2, (eval_other (by decide)).trans h.t3, (eval_other (by decide)).trans h.t4, (eval_other (by decide)).trans h.t6, fun _ => eval_same (by have := h.n; omega),
    fun e => (eval_other (by decide)).trans (h.e39 e), h.r0, h.r1, h.r2, h.lin, h.keeps, h.below⟩
theorem st_39 (h : St D k B W0 v38 v39 s3 s4 a W) : St D k B W0 v38 true s3 s4 (a.put (some 39) (.iface 47 (.int .i64 337))) W :=
  ⟨by simpa [Act.put] using h.n, (eval_other (by decide)).trans h.t2, (eval_other (by decide)).trans h.t3, (eval_other (by decide)).trans h.t4, (eval_other (by decide)).trans h.t6, fun e => (eval_other (by decide)).trans (h.e38 e),
    fun _ => eval_same (by have := h.n; omega), h.r0, h.r1, h.r2, h.lin, h.keeps, h.below⟩
theorem st_s2 (hB : B ≤ D) (h : St D k B W0 v38 v39 s3 s4 a W) : St D k B W0 v38 v39 s3 s4 a (W.setCell ⟨D, 0, none⟩ (.slice none 0 0)) := by
  obtain ⟨x, h1, h1'⟩ := h.r1
  obtain ⟨y, h2, h2'⟩ := h.r2
  exact ⟨h.n, h.t2, h.t3, h.t4, h.t6, h.e38, h.e39, blk_set h.r0 0 _, ⟨x, blk_far h1 (by simp) _, h1'⟩, ⟨y, blk_far h2 (by simp) _, h2'⟩, blk_far h.lin (by simp) _, h.keeps.trans (KeepsOthers.setCell _ _ _), h.below.setCell hB _⟩
theorem st_s3 (hB : B ≤ D) (h : St D k B W0 v38 v39 s3 s4 a W) : St D k B W0 v38 v39 true s4 a (W.setCell ⟨D + 1, 0, none⟩ (.int .i64 k)) := by
  obtain ⟨x, h1, h1'⟩ := h.r1
  obtain ⟨y, h2, h2'⟩ := h.r2
  exact ⟨h.n, h.t2, h.t3, h.t4, h.t6, h.e38, h.e39, blk_far h.r0 (by simp) _, ⟨_, blk_set h1 0 _, fun _ => rfl⟩, ⟨y, blk_far h2 (by simp) _, h2'⟩, blk_far h.lin (by simp) _, h.keeps.trans (KeepsOthers.setCell _ _ _), h.below.setCell (by show B ≤ D + 1; omega) _⟩
theorem st_s4 (hB : B ≤ D) (h : St D k B W0 v38 v39 s3 s4 a W) : St D k B W0 v38 v39 s3 true a (W.setCell ⟨D + 2, 0, none⟩ (.iface 47 (.int .i64 337))) := by
  obtain ⟨x, h1, h1'⟩ := h.r1
  obtain ⟨y, h2, h2'⟩ := h.r2
  exact ⟨h.n, h.t2, h.t3, h.t4, h.t6, h.e38, h.e39, blk_far h.r0 (by simp) _, ⟨x, blk_far h1 (by simp) _, h1'⟩, ⟨_, blk_set h2 0 _, fun _ => rfl⟩, blk_far h.lin (by simp) _, h.keeps.trans (KeepsOthers.setCell _ _ _), h.below.setCell (by show B ≤ D + 2; omega) _⟩

theorem go0 (h : St D k B W0 v38 v39 s3 s4 a W) (hK : ∀ a, St D k B W0 true v39 s3 s4 a W → K a W) : wpOpIn F n Tryz.prog ops13 Q 0 K a W := by
  refine wpOpIn_of (o := ops13[0]) rfl rfl rfl (fun f hf => by cases hf) (fun K' hK' => ?_)
  have c : W.cell? ⟨D + 4, 0, none⟩ = some (.int .i64 k) := blk_cell h.lin 0
  have e6 := h.t6
  simp only [Act.eval, Array.getD_eq_getD_getElem?] at e6
  have e : (execOp a.eval ops13[0]).run Tryz.prog W = .ok (.value (.int .i64 k)) W := by
    show (execOp a.eval { dst := some 38, op := Op.load 3 (Operand.tmp 6), type := 3, pos := "script.go:165", after := #[], guard := none }).run Tryz.prog W = _
    simp [execOp, go_sem, e6, c]
  rw [e]
  exact hK' _ _ (hK _ (st_38 h))
theorem go1 (h : St D k B W0 v38 v39 s3 s4 a W) (hK : ∀ a, St D k B W0 v38 true s3 s4 a W → K a W) : wpOpIn F n Tryz.prog ops13 Q 1 K a W := by
  refine wpOpIn_of (o := ops13[1]) rfl rfl rfl (fun f hf => by cases hf) (fun K' hK' => ?_)
  have e : (execOp a.eval ops13[1]).run Tryz.prog W = .ok (.value (.iface 47 (.int .i64 337))) W := by
    show (execOp a.eval { dst := some 39, op := Op.makeInterface 47 (Operand.const (Value.int IntKind.i64 337)), type := 25, pos := "script.go:165", after := _, guard := none }).run Tryz.prog W = _
    simp [execOp, go_sem]
  rw [e]
  exact hK' _ _ (hK _ (st_39 h))
theorem go2 (hB : B ≤ D) (h : St D k B W0 v38 v39 s3 s4 a W) (hK : ∀ W, St D k B W0 v38 v39 s3 s4 a W → K a W) : wpOpIn F n Tryz.prog ops13 Q 2 K a W := by
  refine wpOpIn_of (o := ops13[2]) rfl rfl rfl (fun f hf => by cases hf) (fun K' hK' => ?_)
  have c : W.cell? ⟨D, 0, none⟩ = some (.slice none 0 0) := blk_cell h.r0 0
  have f := blk_frozen h.r0 0
  have e2 := h.t2
  simp only [Act.eval, Array.getD_eq_getD_getElem?] at e2
  have e : (execOp a.eval ops13[2]).run Tryz.prog W = .ok .skip (W.setCell ⟨D, 0, none⟩ (.slice none 0 0)) := by
    show (execOp a.eval { dst := none, op := Op.store 23 (Operand.tmp 2) (Operand.const (Value.slice none 0 0)), type := 0, pos := "script.go:165", after := _, guard := none }).run Tryz.prog W = _
    simp [execOp, go_sem, e2, c, f]
  rw [e]
  exact hK' _ _ (hK _ (st_s2 hB h))
theorem go3 (hB : B ≤ D) (h : St D k B W0 true v39 s3 s4 a W) (hK : ∀ W, St D k B W0 true v39 true s4 a W → K a W) : wpOpIn F n Tryz.prog ops13 Q 3 K a W := by
  refine wpOpIn_of (o := ops13[3]) rfl rfl rfl (fun f hf => by cases hf) (fun K' hK' => ?_)
  obtain ⟨x, h1, h1'⟩ := h.r1
  have c : W.cell? ⟨D + 1, 0, none⟩ = some x := blk_cell h1 0
  have f := blk_frozen h1 0
  have e3 := h.t3
  have e38 := h.e38 rfl
  simp only [Act.eval, Array.getD_eq_getD_getElem?] at e3 e38
  have e : (execOp a.eval ops13[3]).run Tryz.prog W = .ok .skip (W.setCell ⟨D + 1, 0, none⟩ (.int .i64 k)) := by
    show (execOp a.eval { dst := none, op := Op.store 3 (Operand.tmp 3) (Operand.tmp 38), type := 0, pos := "script.go:165", after := _, guard := none }).run Tryz.prog W = _
    simp [execOp, go_sem, e3, e38, c, f]
  rw [e]
  exact hK' _ _ (hK _ (st_s3 hB h))
theorem go4 (hB : B ≤ D) (h : St D k B W0 v38 true s3 s4 a W) (hK : ∀ W, St D k B W0 v38 true s3 true a W → K a W) : wpOpIn F n Tryz.prog ops13 Q 4 K a W := by
  refine wpOpIn_of (o := ops13[4]) rfl rfl rfl (fun f hf => by cases hf) (fun K' hK' => ?_)
  obtain ⟨x, h1, h1'⟩ := h.r2
  have c : W.cell? ⟨D + 2, 0, none⟩ = some x := blk_cell h1 0
  have f := blk_frozen h1 0
  have e4 := h.t4
  have e39 := h.e39 rfl
  simp only [Act.eval, Array.getD_eq_getD_getElem?] at e4 e39
  have e : (execOp a.eval ops13[4]).run Tryz.prog W = .ok .skip (W.setCell ⟨D + 2, 0, none⟩ (.iface 47 (.int .i64 337))) := by
    show (execOp a.eval { dst := none, op := Op.store 25 (Operand.tmp 4) (Operand.tmp 39), type := 0, pos := "script.go:165", after := _, guard := none }).run Tryz.prog W = _
    simp [execOp, go_sem, e4, e39, c, f]
  rw [e]
  exact hK' _ _ (hK _ (st_s4 hB h))

theorem region13 (hB : B ≤ D) (h : St D k B W0 false false false false a W) (hQ : ∀ a W, St D k B W0 true true true true a W → Q .normal a W) : (Code.region 13 ops13 true).wpIn F n Tryz.prog Q a W := by
  have h0 : St D k B W0 false false false false a { W with drawn := W.drawn + 1 } := ⟨h.n, h.t2, h.t3, h.t4, h.t6, h.e38, h.e39, h.r0, h.r1, h.r2, h.lin, h.keeps.trans (KeepsOthers.drew W), h.below.drew⟩
  refine wpIn_region_any (by kernel_rfl) ?_
  have A01234 : ∀ a W, St D k B W0 true true true true a W → wpAnyIn F n Tryz.prog .any ops13 Q 0 #[true, true, true, true, true] a W := fun a W h => wpAnyIn_end (by kernel_rfl) (hQ a W h)
  have A0123 : ∀ a W, St D k B W0 true true true false a W → wpAnyIn F n Tryz.prog .any ops13 Q 1 #[true, true, true, true, false] a W := fun a W h => wpAnyIn_branch [4] (by kernel_rfl) rfl (List.forall_mem_cons.2 ⟨go4 hB h (fun W h => A01234 a W h), by simp⟩)
  have A012 : ∀ a W, St D k B W0 true true false false a W → wpAnyIn F n Tryz.prog .any ops13 Q 2 #[true, true, true, false, false] a W := fun a W h => wpAnyIn_branch [3] (by kernel_rfl) rfl (List.forall_mem_cons.2 ⟨go3 hB h (fun W h => A0123 a W h), by simp⟩)
  have A023 : ∀ a W, St D k B W0 true false true false a W → wpAnyIn F n Tryz.prog .any ops13 Q 2 #[true, false, true, true, false] a W := fun a W h => wpAnyIn_branch [1] (by kernel_rfl) rfl (List.forall_mem_cons.2 ⟨go1 h (fun a h => A0123 a W h), by simp⟩)
  have A02 : ∀ a W, St D k B W0 true false false false a W → wpAnyIn F n Tryz.prog .any ops13 Q 3 #[true, false, true, false, false] a W := fun a W h => wpAnyIn_branch [1, 3] (by kernel_rfl) rfl (List.forall_mem_cons.2 ⟨go1 h (fun a h => A012 a W h), List.forall_mem_cons.2 ⟨go3 hB h (fun W h => A023 a W h), by simp⟩⟩)
  have A01 : ∀ a W, St D k B W0 true true false false a W → wpAnyIn F n Tryz.prog .any ops13 Q 3 #[true, true, false, false, false] a W := fun a W h => wpAnyIn_branch [2] (by kernel_rfl) rfl (List.forall_mem_cons.2 ⟨go2 hB h (fun W h => A012 a W h), by simp⟩)
  have A12 : ∀ a W, St D k B W0 false true false false a W → wpAnyIn F n Tryz.prog .any ops13 Q 3 #[false, true, true, false, false] a W := fun a W h => wpAnyIn_branch [0] (by kernel_rfl) rfl (List.forall_mem_cons.2 ⟨go0 h (fun a h => A012 a W h), by simp⟩)
  have A0 : ∀ a W, St D k B W0 true false false false a W → wpAnyIn F n Tryz.prog .any ops13 Q 4 #[true, false, false, false, false] a W := fun a W h => wpAnyIn_branch [1, 2] (by kernel_rfl) rfl (List.forall_mem_cons.2 ⟨go1 h (fun a h => A01 a W h), List.forall_mem_cons.2 ⟨go2 hB h (fun W h => A02 a W h), by simp⟩⟩)
  have A1 : ∀ a W, St D k B W0 false true false false a W → wpAnyIn F n Tryz.prog .any ops13 Q 4 #[false, true, false, false, false] a W := fun a W h => wpAnyIn_branch [0, 2] (by kernel_rfl) rfl (List.forall_mem_cons.2 ⟨go0 h (fun a h => A01 a W h), List.forall_mem_cons.2 ⟨go2 hB h (fun W h => A12 a W h), by simp⟩⟩)
  have A2 : ∀ a W, St D k B W0 false false false false a W → wpAnyIn F n Tryz.prog .any ops13 Q 4 #[false, false, true, false, false] a W := fun a W h => wpAnyIn_branch [0, 1] (by kernel_rfl) rfl (List.forall_mem_cons.2 ⟨go0 h (fun a h => A02 a W h), List.forall_mem_cons.2 ⟨go1 h (fun a h => A12 a W h), by simp⟩⟩)
  exact wpAnyIn_branch [0, 1, 2] (by kernel_rfl) rfl (List.forall_mem_cons.2 ⟨go0 h0 (fun a h => A0 a _ h), List.forall_mem_cons.2 ⟨go1 h0 (fun a h => A1 a _ h), List.forall_mem_cons.2 ⟨go2 hB h0 (fun W h => A2 a W h), by simp⟩⟩⟩)
end Go.Proofs.YtfiacgkhkonilaaGreatDoor

/- The walk of script.Parse: the commands of a text. -/
namespace Go.Proofs.YtfiacgkhkonilaaGreatDoor
open Go Go.RowKit Go.Shelf Go.Proofs.YtfiacgkhkonilaaGreatDoorW.PrintWords Go.Proofs.YtfiacgkhkonilaaGreatDoorW.PrintLast Go.Proofs.YtfiacgkhkonilaaGreatDoorW.PrintMore
attribute [local go_sem] Oper.semAt_some
attribute [local simp] wide_fn
attribute [local go_sem] wide_fn

/-! ### sizes -/
theorem fieldsGo_size : ∀ (l cur : B), (fieldsGo cur l).length ≤ l.length + 1 ∧ ∀ w ∈ fieldsGo cur l, w.length ≤ cur.length + l.length
  | [], cur => by
    unfold fieldsGo
    split <;> simp
  | c :: r, cur => by
    unfold fieldsGo
    split
    · split
      · obtain ⟨h1, h2⟩ := fieldsGo_size r []
        refine ⟨by simp; omega, fun w hw => ?_⟩
        have := h2 w hw; simp at this ⊢; omega
      · obtain ⟨h1, h2⟩ := fieldsGo_size r []
        refine ⟨by simp; omega, fun w hw => ?_⟩
        rcases List.mem_cons.1 hw with rfl | hw
        · simp
        · have := h2 w hw; simp at this ⊢; omega
    · obtain ⟨h1, h2⟩ := fieldsGo_size r (cur ++ [c])
      refine ⟨by simp; omega, fun w hw => ?_⟩
      have := h2 w hw; simp at this ⊢; omega
theorem noteCut_size (l : B) : (noteCut l).length ≤ l.length := (List.takeWhile_sublist _).length_le
theorem lines_size : ∀ (l : B), (lines l).length ≤ l.length + 1 ∧ ∀ x ∈ lines l, x.length ≤ l.length
  | [] => by simp [lines]
  | c :: r => by
    obtain ⟨h1, h2⟩ := lines_size r
    unfold lines
    split
    · refine ⟨by simp; omega, fun x hx => ?_⟩
      rcases List.mem_cons.1 hx with rfl | hx
      · simp
      · have := h2 x hx; simp; omega
    · split
      · simp
      · rename_i l ls he
        rw [he] at h1 h2
        refine ⟨by simp at h1 ⊢; omega, fun x hx => ?_⟩
        rcases List.mem_cons.1 hx with rfl | hx
        · have := h2 l (by simp); simp; omega
        · have := h2 x (by simp [hx]); simp; omega

/-! ### a command in memory -/
def kdCmd : Kd Cmd := Kd.iso (Kd.pair (Kd.int .i64) (Kd.pair Kd.string (Kd.pair (Kd.slice 9 Kd.string) (Kd.pair (Kd.slice 2 (Kd.int .i64)) (Kd.slice 5 (Kd.int .u8))))))
  (fun c => (c.line, mk c.verb, c.words.map mk, c.nums, c.bytes))
theorem info37 : (Tryz.prog.info? 37).map (fun i => (i.zero, i.size, i.bytes)) = some (some (.agg #[.int .i64 0, .string ⟨#[]⟩, .slice none 0 0, .slice none 0 0, .slice none 0 0]), 5, 96) := by kernel_rfl
theorem kdCmd_M {w : World} {base : Nat} {ok : Nat → Prop} {c : Cmd} {vW vN vB : Value} (hW : Kd.string.R 9 w base ok vW (c.words.map mk)) (hN : (Kd.int .i64).R 2 w base ok vN c.nums) (hB : (Kd.int .u8).R 5 w base ok vB c.bytes) :
    kdCmd.M w base ok c [.int .i64 c.line, .string (mk c.verb), vW, vN, vB] :=
  ⟨[.int .i64 c.line], [.string (mk c.verb), vW, vN, vB], rfl, rfl, [.string (mk c.verb)], [vW, vN, vB], rfl, rfl, [vW], [vN, vB], rfl, ⟨vW, rfl, hW⟩, [vN], [vB], rfl, ⟨vN, rfl, hN⟩, ⟨vB, rfl, hB⟩⟩
theorem kdCmd_E : ∀ q, q ∈ 37 :: kdCmd.E → q ≠ 3 ∧ q ≠ 23 ∧ q ≠ 25 := by
  intro q hq
  simp [kdCmd, Kd.iso, Kd.pair, Kd.slice, Kd.int, Kd.string, Kd.scalar] at hq
  omega

/-- What holds between two rounds of Parse: k lines are read. -/
structure PI (w : World) (k : Nat) (cs : List Cmd) (W : World) : Prop where
  r0 : W.heap[w.heap.size]? = some (.cells #[.slice none 0 0] 23 (0, 0))
  r1 : W.heap[w.heap.size + 1]? = some (.cells #[.int .i64 0] 3 (0, 0))
  r2 : W.heap[w.heap.size + 2]? = some (.cells #[.nilIface] 25 (0, 0))
  out : ∃ v, W.heap[w.heap.size + 3]? = some (.cells #[v] 23 (0, 0)) ∧ kdCmd.R 37 W w.heap.size (fun k => w.heap.size + 8 ≤ k) v cs
  lin : W.heap[w.heap.size + 4]? = some (.cells #[.int .i64 k] 3 (0, 0))
  below : Below w.heap.size w W
  size : w.heap.size + 8 ≤ W.heap.size

theorem PI.noncell {w : World} {k : Nat} {cs : List Cmd} {A W : World} {row : Option Nat} (h : PI w k cs A) (hg : A.grownBy W row) (hr : ∀ r, row = some r → w.heap.size + 8 ≤ r ∧ ∃ o : Obj, A.heap[r]? = some o ∧ o.isCells = false) : PI w k cs W where
  r0 := heap_noncell h.r0 hg (fun r e => (hr r e).2)
  r1 := heap_noncell h.r1 hg (fun r e => (hr r e).2)
  r2 := heap_noncell h.r2 hg (fun r e => (hr r e).2)
  out := by obtain ⟨v, h1, h2⟩ := h.out; exact ⟨v, heap_noncell h1 hg (fun r e => (hr r e).2), R_noncell h2 hg (fun r e => (hr r e).2)⟩
  lin := heap_noncell h.lin hg (fun r e => (hr r e).2)
  below := h.below.grown hg h.below.size (fun r e => by have := (hr r e).1; omega)
  size := Nat.le_trans h.size hg.size
theorem PI.own {w : World} {k : Nat} {cs : List Cmd} {A W : World} (h : PI w k cs A) (hg : A.grownBy W (some (w.heap.size + 5))) : PI w k cs W where
  r0 := blk_grown h.r0 hg (fun e => by injection e; omega)
  r1 := blk_grown h.r1 hg (fun e => by injection e; omega)
  r2 := blk_grown h.r2 hg (fun e => by injection e; omega)
  out := by obtain ⟨v, h1, h2⟩ := h.out; exact ⟨v, blk_grown h1 hg (fun e => by injection e; omega), Kd.R_grown h2 hg (fun k hk e => by injection e; omega)⟩
  lin := blk_grown h.lin hg (fun e => by injection e; omega)
  below := h.below.grown hg h.below.size (fun r e => by injection e; omega)
  size := Nat.le_trans h.size hg.size

theorem keeps_below {W W1 : World} (h : Below W.heap.size W W1) : KeepsOthers W W1 := ⟨h.size, fun k _ hk _ => (h.block k (Array.getElem?_eq_some_iff.1 hk).1).trans hk⟩
theorem PI.below1 {w : World} {k : Nat} {cs : List Cmd} {A W : World} (h : PI w k cs A) (hb : Below A.heap.size A W) : PI w k cs W := h.noncell (grown_of_below hb none) (fun r e => by cases e)
theorem PI.line {w : World} {k : Nat} {cs : List Cmd} {A : World} (h : PI w k cs A) : PI w (k + 1) cs (A.setCell ⟨w.heap.size + 4, 0, none⟩ (.int .i64 ((k : Int) + 1))) where
  r0 := blk_far h.r0 (by simp) _
  r1 := blk_far h.r1 (by simp) _
  r2 := blk_far h.r2 (by simp) _
  out := by obtain ⟨v, h1, h2⟩ := h.out; exact ⟨v, blk_far h1 (by simp) _, Kd.R_set h2 h.lin (fun q hq => (kdCmd_E q hq).1) 0 _⟩
  lin := blk_set h.lin 0 _
  below := h.below.setCell (by simp) _
  size := by simpa using h.size

/-- What Parse leaves. -/
def ParsePost (w : World) (s : ByteArray) (e : Ending) (w' : World) : Prop := Below w.heap.size w w' ∧
  if 65536 < s.size then e = .returned (.tuple #[.slice none 0 0, .int .i64 0, .iface 47 (.int .i64 2)]) else
  match parseLines 0 (lines s.data.toList) [] with
  | .ok cs => ∃ A c, e = .returned (.tuple #[.slice A cs.length c, .int .i64 0, .nilIface]) ∧ cs.length ≤ c ∧ kdCmd.C w' A cs.length cs ∧ (0 < cs.length → ∃ g, A = some ⟨g, 0, none⟩)
  | .error k => e = .returned (.tuple #[.slice none 0 0, .int .i64 k, .iface 47 (.int .i64 337)])

theorem results7 (tmps : Array Value) (W : World) (a b c : Nat) (x y z : Value) (h2 : tmps.getD 2 undef = .pointer (some ⟨a, 0, none⟩)) (h3 : tmps.getD 3 undef = .pointer (some ⟨b, 0, none⟩)) (h4 : tmps.getD 4 undef = .pointer (some ⟨c, 0, none⟩))
    (c0 : W.cell? ⟨a, 0, none⟩ = some x) (c1 : W.cell? ⟨b, 0, none⟩ = some y) (c2 : W.cell? ⟨c, 0, none⟩ = some z) : (results Tryz.f7 tmps).run Tryz.prog W = .ok (.tuple #[x, y, z]) W := by
  rw [Array.getD_eq_getD_getElem?] at h2 h3 h4
  simp [results, Tryz.results7, go_sem, h2, h3, h4, c0, c1, c2]

set_option maxRecDepth 100000 in
set_option maxHeartbeats 1000000 in
theorem parse_long (s : ByteArray) (w : World) (h : 65536 < s.size) : CallsIn Fence.wide 5 Tryz.prog 7 #[.string s] w (ParsePost w s) := by
  refine callsIn_of_wp_marks Tryz.func7 rfl trivial ?_ rfl
  simp only [Tryz.ntmps7, List.size_toArray, List.length_cons, List.length_nil, Nat.reduceAdd, Nat.reduceSub, Array.replicate_succ, Array.replicate_zero, List.push_toArray, List.append_toArray, List.nil_append, List.cons_append]
  have h1 : (65536 : Int) < (s.size : Int) := by omega
  have H := Lib.hid h
  clear h
  gi_wp2
  have g0 : (((w.alloc (.cells #[.slice none 0 0] 23)).alloc (.cells #[.int .i64 0] 3)).alloc (.cells #[.iface 47 (.int .i64 2)] 25)).heap[w.heap.size]? = some (.cells #[.slice none 0 0] 23 (0, 0)) :=
    ((Below.heap_alloc _ _ _ (by simp <;> omega)).trans (Below.heap_alloc _ _ _ (by simp))).trans (World.alloc_heap_new w _)
  have g1 : (((w.alloc (.cells #[.slice none 0 0] 23)).alloc (.cells #[.int .i64 0] 3)).alloc (.cells #[.iface 47 (.int .i64 2)] 25)).heap[w.heap.size + 1]? = some (.cells #[.int .i64 0] 3 (0, 0)) := by
    refine (Below.heap_alloc _ _ _ (by simp)).trans ?_
    have := World.alloc_heap_new (w.alloc (.cells #[.slice none 0 0] 23)) (.cells #[.int .i64 0] 3)
    rwa [World.size_alloc] at this
  have g2 : (((w.alloc (.cells #[.slice none 0 0] 23)).alloc (.cells #[.int .i64 0] 3)).alloc (.cells #[.iface 47 (.int .i64 2)] 25)).heap[w.heap.size + 1 + 1]? = some (.cells #[.iface 47 (.int .i64 2)] 25 (0, 0)) := by
    have := World.alloc_heap_new ((w.alloc (.cells #[.slice none 0 0] 23)).alloc (.cells #[.int .i64 0] 3)) (.cells #[.iface 47 (.int .i64 2)] 25)
    rwa [World.size_alloc, World.size_alloc] at this
  refine leave0 rfl (results7 _ _ _ _ _ _ _ _ rfl rfl rfl (cell_of_row _ _ 0 _ _ _ g0) (cell_of_row _ _ 0 _ _ _ g1) (cell_of_row _ _ 0 _ _ _ g2)) ⟨(((Below.refl _ w).alloc (Nat.le_refl _) _).alloc (by simp) _).alloc (by simp <;> omega) _, ?_⟩
  rw [if_pos H.out]; rfl

/-- The rows of a command that came of command, in a world behind. -/
theorem M_far {w : World} {Z : Nat} {W W1 : World} {c : Cmd} {A1 A2 A3 : Option Addr} {n1 c1 n2 c2 n3 c3 : Nat} {g : Option Nat} (hZ : Z ≤ W.heap.size) (hw : w.heap.size ≤ W.heap.size)
    (h1 : Kd.string.R 9 W1 W.heap.size (fun _ => True) (.slice A1 n1 c1) (c.words.map mk)) (h2 : (Kd.int .i64).R 2 W1 W.heap.size (fun _ => True) (.slice A2 n2 c2) c.nums) (h3 : (Kd.int .u8).R 5 W1 W.heap.size (fun _ => True) (.slice A3 n3 c3) c.bytes)
    (hg : ∀ b, g = some b → b < W.heap.size) :
    kdCmd.M W1 w.heap.size (fun k => Z ≤ k ∧ some k ≠ g) c [.int .i64 c.line, .string (mk c.verb), .slice A1 n1 c1, .slice A2 n2 c2, .slice A3 n3 c3] := by
  have aux : ∀ k, W.heap.size ≤ k → Z ≤ k ∧ some k ≠ g := fun k hk => ⟨by omega, fun e => by have := hg k e.symm; omega⟩
  refine kdCmd_M (Kd.R_mono (Kd.R_lower (Kd.R_bound h1) hw) (fun k hk => aux k hk.2.1)) (Kd.R_mono (Kd.R_lower (Kd.R_bound h2) hw) (fun k hk => aux k hk.2.1)) (Kd.R_mono (Kd.R_lower (Kd.R_bound h3) hw) (fun k hk => aux k hk.2.1))

theorem up {w : World} {k : Nat} {x : Obj} (o : Obj) (h : w.heap[k]? = some x) : (w.alloc o).heap[k]? = some x := (Below.heap_alloc w o k (Array.getElem?_eq_some_iff.1 h).1).trans h
theorem fresh (w : World) (o : Obj) {n : Nat} (h : w.heap.size = n) : (w.alloc o).heap[n]? = some o := by subst h; exact World.alloc_heap_new w o

theorem parseLines_app : ∀ (k : Nat) (l : B) (r : List B) (acc : List Cmd), parseLines k (l :: r) acc = match wordsOf l with
    | [] => parseLines (k + 1) r acc
    | w => match readCmd w with
      | none => .error (k + 1)
      | some c => parseLines (k + 1) r (acc ++ [{ c with line := (k : Int) + 1 }]) := fun _ _ _ _ => rfl

set_option maxRecDepth 100000 in
set_option maxHeartbeats 4000000 in
theorem parse_full (s : ByteArray) (w : World) (h : s.size ≤ 65536) (henv : Env w) : CallsIn Fence.wide 5 Tryz.prog 7 #[.string s] w (ParsePost w s) := by
  refine callsIn_of_wp_marks Tryz.func7 rfl trivial ?_ rfl
  simp only [Tryz.ntmps7, List.size_toArray, List.length_cons, List.length_nil, Nat.reduceAdd, Nat.reduceSub, Array.replicate_succ, Array.replicate_zero, List.push_toArray, List.append_toArray, List.nil_append, List.cons_append]
  have h1 : ¬ (65536 : Int) < (s.size : Int) := by omega
  have H := Lib.hid h
  have HE := Lib.hid henv
  clear h henv
  gi_wp2_with (gi_at_call 18; refine (callsIn_wide.2 (splitseq_call _ _ _)).mono ?_; rintro e w' ⟨rfl, rfl⟩)
  simp only [Nat.add_assoc, Nat.reduceAdd]
  obtain ⟨W0, hW0⟩ : ∃ W0, ((((((((w.alloc (.cells #[.slice none 0 0] 23)).alloc (.cells #[.int .i64 0] 3)).alloc (.cells #[.nilIface] 25)).alloc (.cells #[.slice none 0 0] 23)).alloc (.cells #[.int .i64 0] 3)).alloc (.cells #[.string s] 9)).alloc (.cells #[.string ⟨#[10]⟩] 9)).alloc (.cells #[.int .i64 0] 3)) = W0 := ⟨_, rfl⟩
  have hsz : W0.heap.size = w.heap.size + 8 := by rw [← hW0]; simp only [World.size_alloc]
  have hb : Below w.heap.size w W0 := by
    rw [← hW0]
    exact (((((((((Below.refl _ w).alloc (Nat.le_refl _) _).alloc (by simp) _).alloc (by simp <;> omega) _).alloc (by simp <;> omega) _).alloc (by simp <;> omega) _).alloc (by simp <;> omega) _).alloc (by simp <;> omega) _).alloc (by simp <;> omega) _)
  have q0 : W0.heap[w.heap.size]? = some (.cells #[.slice none 0 0] 23 (0, 0)) := by
    rw [← hW0]; exact up _ (up _ (up _ (up _ (up _ (up _ (up _ (fresh w _ rfl)))))))
  have q1 : W0.heap[w.heap.size + 1]? = some (.cells #[.int .i64 0] 3 (0, 0)) := by
    rw [← hW0]; exact up _ (up _ (up _ (up _ (up _ (up _ (fresh _ _ (by simp)))))))
  have q2 : W0.heap[w.heap.size + 2]? = some (.cells #[.nilIface] 25 (0, 0)) := by
    rw [← hW0]; exact up _ (up _ (up _ (up _ (up _ (fresh _ _ (by simp))))))
  have q3 : W0.heap[w.heap.size + 3]? = some (.cells #[.slice none 0 0] 23 (0, 0)) := by
    rw [← hW0]; exact up _ (up _ (up _ (up _ (fresh _ _ (by simp)))))
  have q4 : W0.heap[w.heap.size + 4]? = some (.cells #[.int .i64 0] 3 (0, 0)) := by
    rw [← hW0]; exact up _ (up _ (up _ (fresh _ _ (by simp))))
  have q5 : W0.heap[w.heap.size + 5]? = some (.cells #[.string s] 9 (0, 0)) := by
    rw [← hW0]; exact up _ (up _ (fresh _ _ (by simp)))
  have q6 : W0.heap[w.heap.size + 5 + 1]? = some (.cells #[.string ⟨#[10]⟩] 9 (0, 0)) := by
    rw [← hW0]; exact up _ (fresh _ _ (by simp))
  have q7 : W0.heap[w.heap.size + 5 + 2]? = some (.cells #[.int .i64 0] 3 (0, 0)) := by
    rw [← hW0]; exact fresh _ _ (by simp)
  have hPI : PI w 0 [] W0 := ⟨q0, q1, q2, ⟨_, q3, Kd.R_nil _ _ _ _ _⟩, q4, hb, by omega⟩
  rw [hW0]
  have HPI := Lib.hid hPI
  have h5 : w.heap.size + 5 < W0.heap.size := by omega
  clear q0 q1 q2 q3 q4 hW0 hPI hb
  refine wpIn_rangeFunc_C (encs := fun x : ByteArray => #[Value.string x]) rfl (by omega) (gf := 52) (lb := #[.pointer (some ⟨w.heap.size + 6, 0, none⟩), .pointer (some ⟨w.heap.size + 5, 0, none⟩), .pointer (some ⟨w.heap.size + 7, 0, none⟩)]) rfl trivial (enters_of Tryz.func52 (by kernel_rfl) rfl)
    (split_seq 4 (w.heap.size + 5) s (by omega) (by omega) W0 q5 q6 q7) h5
    (fun h k j a b => (k j a b).trans (h j a b)) (fun W l o hl j a b => World.putObj_heap_other (by omega)) (fun _ => rfl)
    (fun pre W => ∃ cs, PI w pre.length cs W ∧ cs.length ≤ pre.length ∧ ∀ rest, parseLines 0 (pre.map (·.data.toList) ++ rest) [] = parseLines pre.length rest cs)
    (fun c pre W => c = .ret ∧ ∃ k : Nat, W.heap[w.heap.size]? = some (.cells #[.slice none 0 0] 23 (0, 0)) ∧ W.heap[w.heap.size + 1]? = some (.cells #[.int .i64 k] 3 (0, 0)) ∧ W.heap[w.heap.size + 2]? = some (.cells #[.iface 47 (.int .i64 337)] 25 (0, 0)) ∧ Below w.heap.size w W ∧ parseLines 0 (lines s.data.toList) [] = .error k)
    (fun _ A W row h hg hr => by obtain ⟨cs, h1, h2⟩ := h; exact ⟨cs, h1.noncell hg (fun r e => ⟨by have := (hr r e).1; omega, (hr r e).2⟩), h2⟩)
    (fun c _ A W row h hg hr => ⟨h.1, by obtain ⟨k, h0, h1, h2, h3, h4⟩ := h.2; exact ⟨k, heap_noncell h0 hg (fun r e => (hr r e).2), heap_noncell h1 hg (fun r e => (hr r e).2), heap_noncell h2 hg (fun r e => (hr r e).2), h3.grown hg h3.size (fun r e => by have := (hr r e).1; omega), h4⟩⟩)
    (fun _ A W h hg => by obtain ⟨cs, h1, h2⟩ := h; exact ⟨cs, h1.own hg, h2⟩)
    (fun c _ A W h hg => ⟨h.1, by obtain ⟨k, h0, h1, h2, h3, h4⟩ := h.2; exact ⟨k, blk_grown h0 hg (fun e => by injection e; omega), blk_grown h1 hg (fun e => by injection e; omega), blk_grown h2 hg (fun e => by injection e; omega), h3.grown hg h3.size (fun r e => by injection e; omega), h4⟩⟩)
    ⟨[], HPI.out, Nat.le_refl _, fun _ => rfl⟩
    (fun x => { tmps := #[.string s, undef, .pointer (some ⟨w.heap.size, 0, none⟩), .pointer (some ⟨w.heap.size + 1, 0, none⟩), .pointer (some ⟨w.heap.size + 2, 0, none⟩), .pointer (some ⟨w.heap.size + 3, 0, none⟩), .pointer (some ⟨w.heap.size + 4, 0, none⟩), .string x, undef, undef, undef, .string s, .int .i64 s.size, .bool false, undef, .string s, .func (.func 52) #[] #[.pointer (some ⟨w.heap.size + 6, 0, none⟩), .pointer (some ⟨w.heap.size + 5, 0, none⟩), .pointer (some ⟨w.heap.size + 7, 0, none⟩)], .string x, undef, undef, undef, undef, undef, undef, undef, undef, undef, undef, undef, undef, undef, undef, undef, undef, undef, undef, undef, undef, undef, undef, undef, undef, undef, undef, undef, undef, undef], defers := [] })
    ?assign ?body ?done ?stop
  case assign =>
    intro l x W K hK
    gi_wp2
    exact hK
  case body =>
    intro l pre x post W hI hx
    obtain ⟨cs, hP, hcl, hrel⟩ := hI
    have hlin : lines s.data.toList = pre.map (·.data.toList) ++ x.data.toList :: post.map (·.data.toList) := by
      have := congrArg (List.map (·.data.toList)) hx
      simpa [Function.comp_def, mk_data] using this
    have hnx := (lines_size s.data.toList).2 x.data.toList (by rw [hlin]; simp)
    have hnl := (lines_size s.data.toList).1
    rw [hlin, List.length_append, List.length_cons, List.length_map] at hnl
    have hs1 := Lib.size_eq s
    have hs2 := Lib.size_eq x
    have hnc := noteCut_size x.data.toList
    have hF := fun W => fields_any (mk (noteCut x.data.toList)) W (by rw [mk_size]; omega)
    have hpm : pre.length ≤ 65537 := by have := H.out; omega
    have hcut := fun W => cut_any x W (by have := H.out; omega)
    rw [mk_data] at hF
    have hfs := fieldsGo_size (noteCut x.data.toList) []
    have hone := hrel (x.data.toList :: post.map (·.data.toList))
    rw [← hlin, parseLines_app] at hone
    have hre : ∀ rest, parseLines 0 ((pre ++ [x]).map (·.data.toList) ++ rest) [] = parseLines pre.length (x.data.toList :: rest) cs := fun rest => by
      rw [List.map_append, List.append_assoc]; exact hrel _
    have hP1 := hP.line
    have c4 : W.cell? ⟨w.heap.size + 4, 0, none⟩ = some (.int .i64 pre.length) := blk_cell hP.lin 0
    have f4 : W.frozen? ⟨w.heap.size + 4, 0, none⟩ = false := blk_frozen hP.lin 0
    have HONE := Lib.hid hone
    have HP := Lib.hid hP
    have HP1 := Lib.hid hP1
    have HRE := Lib.hid hre
    have HF := Lib.hid hF
    have HCU := Lib.hid hcut
    have HFS := Lib.hid hfs
    have HSX := Lib.hid hs2
    have HNC := Lib.hid hnc
    have HNX := Lib.hid hnx
    have hpl : (pre ++ [x]).length = pre.length + 1 := by simp
    have HPL := Lib.hid hpl
    have HCL := Lib.hid hcl
    clear hx hlin hnx hs2 hnc hF hcut hfs hone hrel hre hP hP1 hcl hpl hnl
    simp only []
    rcases hws : wordsOf x.data.toList with _ | ⟨v, rs⟩
    · have HWS := Lib.hid hws
      clear hws
      gi_wp2_with (first
        | (gi_at_call 19; refine (CallsIn.inRound l (callsIn_wide.2 (HCU.out _))).mono ?_; rintro e w2 ⟨y, z, rfl, hb2⟩; dsimp only; have HB2 := Lib.hid hb2; clear hb2)
        | (gi_at_call 20; refine (CallsIn.inRound l (callsIn_wide.2 (HF.out _))).mono ?_; rintro e w3 ⟨u, rfl, hR3, hb3⟩; rw [show fieldsGo [] (noteCut x.data.toList) = [] from HWS.out] at hR3; obtain ⟨A3, q3, rfl⟩ := Kd.R_slice hR3; dsimp only; have HB3 := Lib.hid hb3; clear hb3 hR3))
      refine ⟨((KeepsOthers.setCell _ _ _).trans (keeps_below HB2.out)).trans (keeps_below HB3.out), fun k ka kb => ?_, cs, ?_, by have := HCL.out; rw [HPL.out]; omega, fun rest => ?_⟩
      · have hs1 := HP.out.size
        have hs2 := HB2.out.size
        rw [HB3.out.block k (by simp at hs2; omega), HB2.out.block k (by simp; omega), Below.heap_setCell _ _ _ _ (by show k ≠ w.heap.size + 4; omega)]
      · rw [HPL.out]; exact (HP1.out.below1 HB2.out).below1 HB3.out
      · rw [HRE.out, parseLines_app, HWS.out, HPL.out]
    · have hf : fieldsGo [] (noteCut x.data.toList) = v :: rs := hws
      have hfs := HFS.out
      rw [hf] at hfs
      have hn1 : (rs.map mk).length < 4294967295 := by
        have a1 := hfs.1
        rw [List.length_cons] at a1
        have a2 := HNC.out; have a3 := HNX.out; have a4 := H.out
        rw [List.length_map]; omega
      have hn2 : ∀ y ∈ rs.map mk, y.size ≤ 140737488351232 := by
        intro y hy
        obtain ⟨z, hz, rfl⟩ := List.mem_map.1 hy
        have a1 := hfs.2 z (List.mem_cons_of_mem _ hz)
        rw [List.length_nil] at a1
        have a2 := HNC.out; have a3 := HNX.out; have a4 := H.out
        rw [mk_size]; omega
      have hid : ((mk v :: rs.map mk).map (·.data.toList)) = v :: rs := by simp [Function.comp_def, mk_data]
      have HID := Lib.hid hid
      have HN1 := Lib.hid hn1
      have HN2 := Lib.hid hn2
      have HFE := Lib.hid hf
      have HWS := Lib.hid hws
      obtain ⟨L, hL⟩ : ∃ L, (List.map mk (v :: rs)).length = L := ⟨_, rfl⟩
      have hL0 : 0 < L := by rw [← hL]; simp
      have HL := Lib.hid hL
      have hs8 := HP.out.size
      clear hf hfs hn1 hn2 hid hws hL
      rcases hrc : readCmd (v :: rs) with _ | c
      · have HRC := Lib.hid hrc
        clear hrc
        gi_wp2_with (first
          | (gi_at_call 19; refine (CallsIn.inRound l (callsIn_wide.2 (HCU.out _))).mono ?_; rintro e w2 ⟨y, z, rfl, hb2⟩; dsimp only; have HB2 := Lib.hid hb2; have hsz2 := hb2.size; rw [World.size_setCell] at hsz2; clear hb2)
          | (gi_at_call 20; refine (CallsIn.inRound l (callsIn_wide.2 (HF.out _))).mono ?_; rintro e w3 ⟨u, rfl, hR3, hb3⟩; rw [HFE.out] at hR3; obtain ⟨g, q3, rfl, hg, hg2, _⟩ := Kd.R_form hR3 (by simp); have hP3 := (HP1.out.below1 HB2.out).below1 hb3; have hcm := command_any g 0 q3 (mk v) (rs.map mk) w3 (Kd.R_reads' hR3).2.2 (Kd.R_reads' hR3).2.1 HN1.out HN2.out (HE.out.below hP3.below); rw [show (mk v :: List.map mk rs).length = L from HL.out, HID.out, HRC.out] at hcm; rw [HL.out]; dsimp only; have HCM := Lib.hid hcm; have HP3 := Lib.hid hP3; have HB3 := Lib.hid hb3; have hsz3 : W.heap.size ≤ w3.heap.size := Nat.le_trans hsz2 hb3.size; clear hb3 hR3 hcm hP3)
          | (gi_at_call 22; refine (CallsIn.inRound l (callsIn_wide.2 HCM.out)).mono ?_; rintro e w4 ⟨hb4, lb, vb, A1, n1, d1, A2, n2, d2, A3, n3, d3, rfl⟩; dsimp only; have hP4 := HP3.out.below1 hb4; have hz4 := hP4.size; have HP4 := Lib.hid hP4; have HB4 := Lib.hid hb4; clear hP4 hb4; have hP50 := HP4.out.below1 ((Below.refl _ w4).alloc (Nat.le_refl _) (Obj.cells #[Value.int IntKind.i64 lb, Value.string vb, Value.slice A1 n1 d1, Value.slice A2 n2 d2, Value.slice A3 n3 d3] 37)); have i00 := blk_cell hP50.r0 0; have j00 := blk_frozen hP50.r0 0; have i10 := blk_cell hP50.r1 0; have j10 := blk_frozen hP50.r1 0; have i20 := blk_cell hP50.r2 0; have j20 := blk_frozen hP50.r2 0; have i40 := blk_cell hP50.lin 0; have j40 := blk_frozen hP50.lin 0; clear hP50))
        have hP6 := HP4.out.below1 ((Below.refl _ w4).alloc (Nat.le_refl _) (Obj.cells #[Value.int IntKind.i64 lb, Value.string vb, Value.slice A1 n1 d1, Value.slice A2 n2 d2, Value.slice A3 n3 d3] 37))
        have hk6 : KeepsOthers W (w4.alloc (Obj.cells #[Value.int IntKind.i64 lb, Value.string vb, Value.slice A1 n1 d1, Value.slice A2 n2 d2, Value.slice A3 n3 d3] 37)) :=
          ((((KeepsOthers.setCell _ _ _).trans (keeps_below HB2.out)).trans (keeps_below HB3.out)).trans (keeps_below HB4.out)).trans (keeps_below ((Below.refl _ w4).alloc (Nat.le_refl _) _))
        have hz8 := HP.out.size
        have hbW : Below w.heap.size W (w4.alloc (Obj.cells #[Value.int IntKind.i64 lb, Value.string vb, Value.slice A1 n1 d1, Value.slice A2 n2 d2, Value.slice A3 n3 d3] 37)) := (((((Below.refl _ W).setCell (by show w.heap.size ≤ w.heap.size + 4; omega) _).trans (HB2.out.mono (by simp; omega))).trans (HB3.out.mono (by omega))).trans (HB4.out.mono (by omega))).alloc (by omega) _
        refine region13 (D := w.heap.size) (k := ((pre.length + 1 : Nat) : Int)) (B := w.heap.size) (W0 := W) (Nat.le_refl _) ⟨by simp, rfl, rfl, rfl, rfl, fun e => (by cases e), fun e => (by cases e), hP6.r0, ⟨_, hP6.r1, fun e => (by cases e)⟩, ⟨_, hP6.r2, fun e => (by cases e)⟩, hP6.lin, hk6, hbW⟩ (fun a7 W7 h7 => ?_)
        clear hbW hk6 hP6
        have H7 := Lib.hid h7
        clear h7
        gi_wp2
        obtain ⟨x1, h1, e1⟩ := H7.out.r1
        obtain ⟨x2, h2, e2⟩ := H7.out.r2
        cases e1 rfl
        cases e2 rfl
        refine ⟨H7.out.keeps, rfl, pre.length + 1, H7.out.r0, h1, h2, HP.out.below.trans H7.out.below, ?_⟩
        rw [HONE.out, HWS.out]
        simp only [HRC.out]
      · have HRC := Lib.hid hrc
        clear hrc
        gi_wp2_with (first
          | (gi_at_call 19; refine (CallsIn.inRound l (callsIn_wide.2 (HCU.out _))).mono ?_; rintro e w2 ⟨y, z, rfl, hb2⟩; dsimp only; have HB2 := Lib.hid hb2; have hsz2 := hb2.size; rw [World.size_setCell] at hsz2; clear hb2)
          | (gi_at_call 20; refine (CallsIn.inRound l (callsIn_wide.2 (HF.out _))).mono ?_; rintro e w3 ⟨u, rfl, hR3, hb3⟩; rw [HFE.out] at hR3; obtain ⟨g, q3, rfl, hg, hg2, _⟩ := Kd.R_form hR3 (by simp); have hP3 := (HP1.out.below1 HB2.out).below1 hb3; have hcm := command_any g 0 q3 (mk v) (rs.map mk) w3 (Kd.R_reads' hR3).2.2 (Kd.R_reads' hR3).2.1 HN1.out HN2.out (HE.out.below hP3.below); rw [show (mk v :: List.map mk rs).length = L from HL.out, HID.out, HRC.out] at hcm; rw [HL.out]; dsimp only; have HCM := Lib.hid hcm; have HP3 := Lib.hid hP3; have HB3 := Lib.hid hb3; have hsz3 : W.heap.size ≤ w3.heap.size := Nat.le_trans hsz2 hb3.size; clear hb3 hR3 hcm hP3)
          | (gi_at_call 22; refine (CallsIn.inRound l (callsIn_wide.2 HCM.out)).mono ?_; rintro e w4 ⟨hb4, A1, n1, d1, A2, n2, d2, A3, n3, d3, rfl, hr1, hr2, hr3⟩; dsimp only; obtain ⟨vo, hvo3, hro3⟩ := HP3.out.out; have hlt3 := (Array.getElem?_eq_some_iff.1 hvo3).1; have hP4 := HP3.out.below1 hb4; have hz4 := hP4.size; have hP50 := hP4.below1 ((Below.refl _ w4).alloc (Nat.le_refl _) (Obj.cells #[Value.int IntKind.i64 0, Value.string (mk c.verb), Value.slice A1 n1 d1, Value.slice A2 n2 d2, Value.slice A3 n3 d3] 37)); have i40 := blk_cell hP50.lin 0; have j40 := blk_frozen hP50.lin 0; clear hP50; have hP51 := hP4.below1 ((Below.refl _ w4).alloc (Nat.le_refl _) (Obj.cells #[Value.int IntKind.i64 ((pre.length : Int) + 1), Value.string (mk c.verb), Value.slice A1 n1 d1, Value.slice A2 n2 d2, Value.slice A3 n3 d3] 37)); have i41 := blk_cell hP51.lin 0; have j41 := blk_frozen hP51.lin 0; clear hP51; have hvo5 := up (Obj.cells #[Value.int IntKind.i64 ((pre.length : Int) + 1), Value.string (mk c.verb), Value.slice A1 n1 d1, Value.slice A2 n2 d2, Value.slice A3 n3 d3] 37) ((hb4.block _ hlt3).trans hvo3); have i31 := blk_cell hvo5 0; have j31 := blk_frozen hvo5 0; have hro5 := Kd.R_alloc (Kd.R_below hro3 hb4) (Obj.cells #[Value.int IntKind.i64 ((pre.length : Int) + 1), Value.string (mk c.verb), Value.slice A1 n1 d1, Value.slice A2 n2 d2, Value.slice A3 n3 d3] 37); have hM := M_far (w := w) (Z := w.heap.size + 8) (W := w3) (c := { c with line := (pre.length : Int) + 1 }) (g := vo.ownBlock) HP3.out.size HP3.out.below.size (Kd.R_alloc hr1 (Obj.cells #[Value.int IntKind.i64 ((pre.length : Int) + 1), Value.string (mk c.verb), Value.slice A1 n1 d1, Value.slice A2 n2 d2, Value.slice A3 n3 d3] 37)) (Kd.R_alloc hr2 (Obj.cells #[Value.int IntKind.i64 ((pre.length : Int) + 1), Value.string (mk c.verb), Value.slice A1 n1 d1, Value.slice A2 n2 d2, Value.slice A3 n3 d3] 37)) (Kd.R_alloc hr3 (Obj.cells #[Value.int IntKind.i64 ((pre.length : Int) + 1), Value.string (mk c.verb), Value.slice A1 n1 d1, Value.slice A2 n2 d2, Value.slice A3 n3 d3] 37)) (fun b e => Kd.R_lt hro3 b e); have HM := Lib.hid hM; have HVO := Lib.hid hvo5; have HRO := Lib.hid hro5; have HP4 := Lib.hid hP4; have HB4 := Lib.hid hb4; clear hP4 hb4 hM hvo5 hro5 hvo3 hro3 hr1 hr2 hr3 hlt3)
          | (gi_at_builtin; refine R_append_in kdCmd (W := w4.alloc (Obj.cells #[Value.int IntKind.i64 ((pre.length : Int) + 1), Value.string (mk c.verb), Value.slice A1 n1 d1, Value.slice A2 n2 d2, Value.slice A3 n3 d3] 37)) w.heap.size rfl (.tmp 42) (.tmp 44) 23 37 (.agg #[.int .i64 0, .string ⟨#[]⟩, .slice none 0 0, .slice none 0 0, .slice none 0 0]) 96 rfl Tryz.underlying23 info37 rfl (by decide) (by omega) vo cs { c with line := (pre.length : Int) + 1 } [Value.int IntKind.i64 ((pre.length : Int) + 1), Value.string (mk c.verb), Value.slice A1 n1 d1, Value.slice A2 n2 d2, Value.slice A3 n3 d3] (fun k => w.heap.size + 8 ≤ k) (fun k => w.heap.size + 8 ≤ k ∧ some k ≠ vo.ownBlock) rfl ?aX ?aP (fun _ hk => hk) ?aF ?aO ?aS ?aL ?_; (case aX => (simp only [World.size_alloc]; rfl)); (case aP => exact HM.out); (case aF => (intro k hk; have hk' : w4.heap.size + 1 ≤ k := (by simpa using hk); omega)); (case aO => exact HRO.out); (case aS => ((try simp only [World.size_alloc]); omega)); (case aL => (have := HCL.out; omega)); intro v1 w5 ho hg5 hat; obtain ⟨A9, q9, rfl⟩ := Kd.R_slice ho; have hbk5 := blk_grown HVO.out hg5 (fun e => by have := HRO.out.1 _ e.symm; omega); have i35 : w5.cell? ⟨w.heap.size + 3, 0, none⟩ = some vo := blk_cell hbk5 0; have j35 := blk_frozen hbk5 0; have HBK := Lib.hid hbk5; have HO := Lib.hid ho; have HG5 := Lib.hid hg5; clear hbk5 ho hg5 hat; simp only [Act.put, List.setIfInBounds_toArray, List.set_cons_zero, List.set_cons_succ]))
        have hP5 := HP4.out.below1 ((Below.refl _ w4).alloc (Nat.le_refl _) (Obj.cells #[Value.int IntKind.i64 ((pre.length : Int) + 1), Value.string (mk c.verb), Value.slice A1 n1 d1, Value.slice A2 n2 d2, Value.slice A3 n3 d3] 37))
        have hk5 : KeepsOthers W (w4.alloc (Obj.cells #[Value.int IntKind.i64 ((pre.length : Int) + 1), Value.string (mk c.verb), Value.slice A1 n1 d1, Value.slice A2 n2 d2, Value.slice A3 n3 d3] 37)) :=
          ((((KeepsOthers.setCell _ _ _).trans (keeps_below HB2.out)).trans (keeps_below HB3.out)).trans (keeps_below HB4.out)).trans (keeps_below ((Below.refl _ w4).alloc (Nat.le_refl _) _))
        have hne : ∀ k, vo.ownBlock = some k → w.heap.size + 8 ≤ k := HRO.out.1
        have hz2 : W.heap.size ≤ w2.heap.size := hsz2
        have hz3 := HB3.out.size
        have hz4' := HB4.out.size
        have hz5 := HG5.out.size
        rw [World.size_alloc] at hz5
        refine ⟨(hk5.trans (keeps_R HRO.out HG5.out)).trans (KeepsOthers.setCell _ _ _), fun k ka kb => ?_, cs ++ [{ c with line := (pre.length : Int) + 1 }], ?_, ?_, fun rest => ?_⟩
        · rw [Below.heap_setCell _ _ _ _ (by show k ≠ w.heap.size + 3; omega), HG5.out.block k (by rw [World.size_alloc]; omega) (fun e => by have := hne k e.symm; omega), Below.heap_alloc _ _ _ (by omega), HB4.out.block k (by omega), HB3.out.block k (by omega), HB2.out.block k (by rw [World.size_setCell]; omega), Below.heap_setCell _ _ _ _ (by show k ≠ w.heap.size + 4; omega)]
        · rw [HPL.out]
          refine ⟨blk_far (blk_grown hP5.r0 HG5.out (fun e => by have := hne _ e.symm; omega)) (by simp) _, blk_far (blk_grown hP5.r1 HG5.out (fun e => by have := hne _ e.symm; omega)) (by simp) _, blk_far (blk_grown hP5.r2 HG5.out (fun e => by have := hne _ e.symm; omega)) (by simp) _,
            ⟨_, blk_set HBK.out 0 _, ?_⟩, blk_far (blk_grown hP5.lin HG5.out (fun e => by have := hne _ e.symm; omega)) (by simp) _, ?_, by rw [World.size_setCell]; omega⟩
          · have h := Kd.R_set HO.out HBK.out (fun q hq => (kdCmd_E q hq).2.1) 0 (.slice A9 (cs.length + 1) q9)
            rw [List.length_append] at h
            exact h
          · exact (hP5.below.grown HG5.out hP5.below.size (fun k e => by have := hne k e; omega)).setCell (by show w.heap.size ≤ w.heap.size + 3; omega) _
        · rw [HPL.out, List.length_append]; have := HCL.out; simp; exact this
        · rw [HRE.out, parseLines_app, HWS.out, HPL.out]
          simp only [HRC.out]
  case done =>
    intro D W hD0 hI hK
    obtain ⟨cs, hP, _, hrel⟩ := hI
    have hfin : parseLines 0 (lines s.data.toList) [] = .ok cs := by
      have := hrel []
      rw [List.append_nil] at this
      simpa [Function.comp_def, mk_data, parseLines] using this
    obtain ⟨v, hv, hR⟩ := hP.out
    obtain ⟨A1, q1, rfl⟩ := Kd.R_slice hR
    have c0 : W.cell? ⟨w.heap.size, 0, none⟩ = some (.slice none 0 0) := blk_cell hP.r0 0
    have c1 : W.cell? ⟨w.heap.size + 1, 0, none⟩ = some (.int .i64 0) := blk_cell hP.r1 0
    have c2 : W.cell? ⟨w.heap.size + 2, 0, none⟩ = some .nilIface := blk_cell hP.r2 0
    have c3 : W.cell? ⟨w.heap.size + 3, 0, none⟩ = some (.slice A1 cs.length q1) := blk_cell hv 0
    have f0 : W.frozen? ⟨w.heap.size, 0, none⟩ = false := blk_frozen hP.r0 0
    have f1 : W.frozen? ⟨w.heap.size + 1, 0, none⟩ = false := blk_frozen hP.r1 0
    have f2 : W.frozen? ⟨w.heap.size + 2, 0, none⟩ = false := blk_frozen hP.r2 0
    have HP := Lib.hid hP
    have HR := Lib.hid hR
    have HK := Lib.hid hK
    have HFI := Lib.hid hfin
    have hDW : D < W.heap.size := (Array.getElem?_eq_some_iff.1 hK).1
    clear hP hv hR hK hrel hfin
    gi_wp2
    have g0 := blk_far (blk_far (blk_set HP.out.r0 0 (.slice A1 cs.length q1)) (p := ⟨w.heap.size + 1, 0, none⟩) (by simp) (.int .i64 0)) (p := ⟨w.heap.size + 2, 0, none⟩) (by simp) .nilIface
    have g1 := blk_far (blk_set (blk_far HP.out.r1 (p := ⟨w.heap.size, 0, none⟩) (by simp) (.slice A1 cs.length q1)) 0 (.int .i64 0)) (p := ⟨w.heap.size + 2, 0, none⟩) (by simp) .nilIface
    have g2 := blk_set (blk_far (blk_far HP.out.r2 (p := ⟨w.heap.size, 0, none⟩) (by simp) (.slice A1 cs.length q1)) (p := ⟨w.heap.size + 1, 0, none⟩) (by simp) (.int .i64 0)) 0 .nilIface
    have hK2 : (((W.setCell ⟨w.heap.size, 0, none⟩ (.slice A1 cs.length q1)).setCell ⟨w.heap.size + 1, 0, none⟩ (.int .i64 0)).setCell ⟨w.heap.size + 2, 0, none⟩ .nilIface).heap[D]? = some (.deferred (some [])) := by
      rw [Below.heap_setCell _ _ _ _ (by show D ≠ w.heap.size + 2; omega), Below.heap_setCell _ _ _ _ (by show D ≠ w.heap.size + 1; omega), Below.heap_setCell _ _ _ _ (by show D ≠ w.heap.size; omega)]; exact HK.out
    have hB2 : Below w.heap.size w (((W.setCell ⟨w.heap.size, 0, none⟩ (.slice A1 cs.length q1)).setCell ⟨w.heap.size + 1, 0, none⟩ (.int .i64 0)).setCell ⟨w.heap.size + 2, 0, none⟩ .nilIface) := ((HP.out.below.setCell (Nat.le_refl _) _).setCell (by simp) _).setCell (by simp) _
    have hR2 := Kd.R_set (Kd.R_set (Kd.R_set HR.out HP.out.r0 (fun q hq => (kdCmd_E q hq).2.1) 0 (.slice A1 cs.length q1)) (blk_far HP.out.r1 (p := ⟨w.heap.size, 0, none⟩) (by simp) (.slice A1 cs.length q1)) (fun q hq => (kdCmd_E q hq).1) 0 (.int .i64 0))
      (blk_far (blk_far HP.out.r2 (p := ⟨w.heap.size, 0, none⟩) (by simp) (.slice A1 cs.length q1)) (p := ⟨w.heap.size + 1, 0, none⟩) (by simp) (.int .i64 0)) (fun q hq => (kdCmd_E q hq).2.2) 0 .nilIface
    generalize ((W.setCell ⟨w.heap.size, 0, none⟩ (.slice A1 cs.length q1)).setCell ⟨w.heap.size + 1, 0, none⟩ (.int .i64 0)).setCell ⟨w.heap.size + 2, 0, none⟩ .nilIface = W2 at *
    have e0 : (W2.putObj D (.deferred none)).heap[w.heap.size]? = some (.cells #[.slice A1 cs.length q1] 23 (0, 0)) := (World.putObj_heap_other (by omega)).trans g0
    have e1 : (W2.putObj D (.deferred none)).heap[w.heap.size + 1]? = some (.cells #[.int .i64 0] 3 (0, 0)) := (World.putObj_heap_other (by omega)).trans g1
    have e2 : (W2.putObj D (.deferred none)).heap[w.heap.size + 2]? = some (.cells #[.nilIface] 25 (0, 0)) := (World.putObj_heap_other (by omega)).trans g2
    refine leave1 rfl hK2 (results7 _ _ _ _ _ _ _ _ rfl rfl rfl (cell_of_row _ _ 0 _ _ _ e0) (cell_of_row _ _ 0 _ _ _ e1) (cell_of_row _ _ 0 _ _ _ e2)) ⟨below_put hB2 (by omega) hK2, ?_⟩
    rw [if_neg (by have := H.out; omega), HFI.out]
    have h := R_noncell hR2 (grownBy_putObj' W2 D (.deferred none)) (fun r e => by cases e; exact ⟨_, hK2, rfl⟩)
    exact ⟨A1, q1, rfl, (Kd.R_reads' h).2.1, (Kd.R_reads' h).2.2, fun hp => by obtain ⟨g, cap, e, _⟩ := Kd.R_form h hp; cases e; exact ⟨g, rfl⟩⟩
  case stop =>
    rintro D c pre W hD0 hpre ⟨rfl, k, hr0, hr1, hr2, hb, hbad⟩ hK
    gi_wp2
    have e0 : (W.putObj D (.deferred none)).heap[w.heap.size]? = some (.cells #[.slice none 0 0] 23 (0, 0)) := (World.putObj_heap_other (by omega)).trans hr0
    have e1 : (W.putObj D (.deferred none)).heap[w.heap.size + 1]? = some (.cells #[.int .i64 k] 3 (0, 0)) := (World.putObj_heap_other (by omega)).trans hr1
    have e2 : (W.putObj D (.deferred none)).heap[w.heap.size + 2]? = some (.cells #[.iface 47 (.int .i64 337)] 25 (0, 0)) := (World.putObj_heap_other (by omega)).trans hr2
    refine leave1 rfl hK (results7 _ _ _ _ _ _ _ _ rfl rfl rfl (cell_of_row _ _ 0 _ _ _ e0) (cell_of_row _ _ 0 _ _ _ e1) (cell_of_row _ _ 0 _ _ _ e2)) ⟨below_put hb (by omega) hK, ?_⟩
    rw [if_neg (by have := H.out; omega), hbad]
    rfl
/-- script.Parse. -/
theorem parse_any (s : ByteArray) (w : World) (henv : Env w) : Calls Tryz.prog 7 #[.string s] w (ParsePost w s) := by
  by_cases h : 65536 < s.size
  · exact callsIn_wide.1 (parse_long s w h)
  · exact callsIn_wide.1 (parse_full s w (by omega) henv)
end Go.Proofs.YtfiacgkhkonilaaGreatDoor
