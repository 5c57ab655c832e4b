/- Part 1 of a proof: Lines, Spec, Shelf, Named, Env, Laid, Dec, Fields -/
import Derived.Lib.IndexBytes
import Derived.Lib.IndexLaws
import Derived.Lib.Strings
import Derived.Lib.SlTrimSet
import Derived.Lib.ParseIntB
import Derived.Lib.ItoaNum
import Derived.Shelf.Strings.Builder1
import Derived.Shelf.Strings.Builder2
import Derived.Shelf.Strings.OnBuilder
import Derived.Shelf.Strings.Trim
import Derived.Shelf.Small.Utf8
import Derived.Shelf.Small.Strs
import Derived.Shelf.Strconv.Itoa0
import Derived.Shelf.Strconv.Itoa1
import Derived.Shelf.LaysM
import Derived.Shelf.Strconv.Itoa2
import Derived.Shelf.Strconv.Itoa3
import Derived.Shelf.Strconv.Itoa4
import Derived.Shelf.Strconv.ParseIntEmpty
import Derived.Shelf.Strconv.Clone
import Derived.Shelf.Strconv.SyntaxError
import Derived.Shelf.LaysC
import Derived.Shelf.Strconv.ToError
import Derived.Shelf.Strconv.Lower
import Derived.Shelf.Strconv.ParseUint10
import Derived.Shelf.Strconv.ParseUint10Empty
import Derived.Shelf.Strconv.ParseUint10Any
import Derived.Shelf.Strconv.ParseInt10
import Derived.Shelf.Strconv.RangeError
import Derived.Shelf.Strconv.ToErrorRange
import Derived.Shelf.Strconv.ParseUintEmpty
import Derived.Shelf.Strconv.ParseUint10b64
import Derived.Shelf.Strconv.ParseUint10b32
import Derived.Shelf.Strconv.ParseUint10b16
import Derived.Shelf.Strconv.ParseUint10b8
import Derived.Shelf.Strconv.ParseUint10At
import Derived.Shelf.Strconv.ParseInt10At64
import Derived.Shelf.Strconv.ParseInt10At32
import Derived.Shelf.Strconv.ParseInt10At16
import Derived.Shelf.Strconv.ParseInt10At8
import Derived.Shelf.Strconv.ParseInt10All
import Derived.Shelf.Strconv.ParseIntPublic10
import Derived.Shelf.Strconv.ErrVarParseInt
import Derived.Shelf.Strings.Search1
import Derived.Shelf.Strings.Search2
import Derived.Shelf.Strings.Search3
import Derived.Shelf.Strings.Cut
import Derived.Shelf.Strings.Shaped
import Derived.Shelf.Strings.Runes
import Derived.Shelf.Strings.AsciiSet
import Derived.Shelf.Unicode.DecodeSlow
import Derived.Shelf.Unicode.DecodeAny
import Derived.Shelf.Unicode.DecodeLast
import Derived.Shelf.Strings.FieldsFuncAny
import Derived.Shelf.Strings.FieldsFuncGrows
import Derived.Shelf.Slices.Equal
import Derived.Shelf.Slices.Empties2
import Derived.Test.YtfiacgkhkonilaaGreatDoorProg
import Derived.Shelf.Strings.SlTrimAscii
import Derived.Test.YtfiacgkhkonilaaGreatDoorWMore
import Derived.WalkKit
import Derived.Outline
import Derived.Lib.Hide
import Derived.Deep.QuietTactic
import Derived.BigQuiet
import Derived.WalkSmall
import Derived.Lib.AppendIntMem
import Derived.Test.YtfiacgkhkonilaaGreatDoorCards
import Derived.Test.YtfiacgkhkonilaaGreatDoorTie
import Derived.ProofKit
import Derived.OpenShut
import Derived.LaidLaws
import Derived.LaidHandle
import Derived.LaidMore
import Derived.Lay
import Derived.Lib.LaidTab
import Derived.Lib.LaidU8
import Derived.Lib.ItoaMem
import Derived.Lib.ParseIntBTie
import Derived.Test.YtfiacgkhkonilaaGreatDoorPblankx1
import Derived.Lib.TrimUEq
import Derived.OwnWalk
/- A text as lines, and a line as words: plain definitions and laws, no program in sight. -/
namespace Go.Proofs.YtfiacgkhkonilaaGreatDoor
open Go

abbrev B := List UInt8
def mk (l : B) : ByteArray := ⟨l.toArray⟩
theorem mk_data (l : B) : (mk l).data.toList = l := by simp [mk]
theorem mk_of (b : ByteArray) : mk b.data.toList = b := by simp [mk]
theorem mk_inj {a b : B} (h : mk a = mk b) : a = b := by rw [← mk_data a, h, mk_data]
theorem mk_size (l : B) : (mk l).size = l.length := by rw [Lib.size_eq, mk_data]
theorem of_mk {b : ByteArray} {l : B} (h : b.data.toList = l) : b = mk l := by rw [← h, mk_of]

/-- The lines of a text. -/
def lines : B → List B
  | [] => [[]]
  | c :: r => if c = 10 then [] :: lines r else match lines r with | [] => [[c]] | l :: ls => (c :: l) :: ls
theorem lines_ne : ∀ l, lines l ≠ []
  | [] => by simp [lines]
  | c :: r => by unfold lines; split; simp; split <;> simp
theorem lines_cut : ∀ (a b : B), (∀ k : Nat, a[k]? ≠ some 10) → lines (a ++ 10 :: b) = a :: lines b
  | [], b, _ => by simp [lines]
  | c :: a, b, h => by
    have hc : c ≠ 10 := fun e => h 0 (by simp [e])
    have ih := lines_cut a b (fun k => by have := h (k + 1); simpa using this)
    rw [List.cons_append, lines, if_neg hc, ih]
theorem lines_one : ∀ (a : B), (∀ k : Nat, a[k]? ≠ some 10) → lines a = [a]
  | [], _ => rfl
  | c :: a, h => by
    have hc : c ≠ 10 := fun e => h 0 (by simp [e])
    rw [lines, if_neg hc, lines_one a (fun k => by have := h (k + 1); simpa using this)]
theorem lines_none {l : B} (h : Lib.indexByte l 10 = -1) : lines l = [l] := lines_one l (Lib.indexByte_none h)
theorem lines_some {l : B} {o : Nat} (h : Lib.indexByte l 10 = o) : lines l = l.take o :: lines (l.drop (o + 1)) := by
  obtain ⟨h1, h2⟩ := Lib.indexByte_some h
  have e : l = l.take o ++ 10 :: l.drop (o + 1) := by
    obtain ⟨hlt, he⟩ := List.getElem?_eq_some_iff.1 h1
    rw [← he, List.getElem_cons_drop, List.take_append_drop]
  have hn : ∀ k : Nat, (l.take o)[k]? ≠ some 10 := fun k => by
    by_cases hk : k < o
    · rw [List.getElem?_take_of_lt hk]; exact h2 k hk
    · rw [List.getElem?_eq_none (by rw [List.length_take]; omega)]; intro h; cases h
  have := lines_cut _ (l.drop (o + 1)) hn
  rw [← e] at this
  exact this
theorem index_lt {l : B} {c : UInt8} {o : Nat} (h : Lib.indexByte l c = o) : o < l.length := (List.getElem?_eq_some_iff.1 (Lib.indexByte_some h).1).1
end Go.Proofs.YtfiacgkhkonilaaGreatDoor

/- What a line of words means as a command, and what a text is as commands: plain definitions, no program in sight. -/
namespace Go.Proofs.YtfiacgkhkonilaaGreatDoor
open Go

/-- A command. -/
structure Cmd where
  line : Int
  verb : B
  words : List B
  nums : List Int
  bytes : List Int

def isName (w : B) : Bool := decide (1 ≤ w.length) && (decide (w.length ≤ 16) && w.all fun c => decide (97 ≤ c.toNat) && decide (c.toNat ≤ 122))
def az : B := [97, 98, 99, 100, 101, 102, 103, 104, 105, 106, 107, 108, 109, 110, 111, 112, 113, 114, 115, 116, 117, 118, 119, 120, 121, 122]
def hexa : B := [48, 49, 50, 51, 52, 53, 54, 55, 56, 57, 97, 98, 99, 100, 101, 102]
def numOf (w : B) : Option Int := match Lib.parseIntB 64 w with | .ok v => if Lib.itoa v = w then some v else none | _ => none
def hexVal (c : UInt8) : Int := Lib.indexByte hexa c
def hexOf : B → Option (List Int)
  | [] => some []
  | [_] => none
  | a :: b :: r => if hexVal a < 0 ∨ hexVal b < 0 then none else (hexOf r).map fun l => (hexVal a * 16 + hexVal b) :: l
def bytesWord (w : B) : Option (List Int) := if w = [] then none else hexOf w

structure Need where
  words : Nat
  bytes : Bool
  least : Nat
  most : Nat
  unpaired : Bool
def vSet : B := [115, 101, 116]
def vModel : B := [109, 111, 100, 101, 108]
def vRow : B := [114, 111, 119]
def vStart : B := [115, 116, 97, 114, 116]
def vTracks : B := [116, 114, 97, 99, 107, 115]
def vCounts : B := [99, 111, 117, 110, 116, 115]
def vTime : B := [116, 105, 109, 101]
def vScan : B := [115, 99, 97, 110]
def vRaw : B := [114, 97, 119]
def vConfig : B := [99, 111, 110, 102, 105, 103]
def vTrack : B := [116, 114, 97, 99, 107]
def vCount : B := [99, 111, 117, 110, 116]
def needOf (v : B) : Option Need :=
  if v = vSet then some ⟨1, false, 1, 1, true⟩
  else if v = vModel then some ⟨0, false, 3, 3, true⟩
  else if v = vRow then some ⟨0, false, 1, 4, true⟩
  else if v = vStart ∨ v = vTracks ∨ v = vCounts ∨ v = vTime then some ⟨0, false, 0, 0, true⟩
  else if v = vScan then some ⟨0, false, 3, 129, false⟩
  else if v = vRaw ∨ v = vConfig then some ⟨0, true, 0, 0, true⟩
  else if v = vTrack then some ⟨0, false, 1, 1, true⟩
  else if v = vCount then some ⟨1, false, 0, 0, true⟩
  else none
def Need.right (n : Need) (k : Nat) : Bool := decide (n.least ≤ k) && (decide (k ≤ n.most) && (n.unpaired || decide (k % 2 = 1)))
def numsOf : List B → Option (List Int)
  | [] => some []
  | w :: r => match numOf w with | none => none | some v => (numsOf r).map (v :: ·)
/-- A line's words as a command (its line 0). -/
def readCmd : List B → Option Cmd
  | [] => none
  | v :: rest =>
    match needOf v with
    | none => none
    | some n =>
      if rest.length < n.words then none
      else if (rest.take n.words).all isName = false then none
      else if n.bytes then
        match rest.drop n.words with
        | [x] => (bytesWord x).map fun b => ⟨0, v, rest.take n.words, [], b⟩
        | _ => none
      else if n.right (rest.drop n.words).length then (numsOf (rest.drop n.words)).map fun l => ⟨0, v, rest.take n.words, l, []⟩
      else none

def isBlank (c : UInt8) : Bool := c == 32 || c == 9 || c == 13
/-- The fields of a line: cur is the field that is open. -/
def fieldsGo : B → B → List B
  | cur, [] => if cur = [] then [] else [cur]
  | cur, c :: r => if isBlank c then (if cur = [] then fieldsGo [] r else cur :: fieldsGo [] r) else fieldsGo (cur ++ [c]) r
def wordsOf (l : B) : List B := fieldsGo [] (l.takeWhile (· ≠ 37))
/-- The commands of lines from a number on; or the number of the line that is wrong. -/
def parseLines : Nat → List B → List Cmd → Except Nat (List Cmd)
  | _, [], acc => .ok acc
  | k, l :: r, acc =>
    match wordsOf l with
    | [] => parseLines (k + 1) r acc
    | w => match readCmd w with
      | none => .error (k + 1)
      | some c => parseLines (k + 1) r (acc ++ [{ c with line := (k : Int) + 1 }])

theorem az_contains (c : UInt8) : az.contains c = (decide (97 ≤ c.toNat) && decide (c.toNat ≤ 122)) := by
  have h : ∀ n, n < 256 → az.contains (UInt8.ofNat n) = (decide (97 ≤ n) && decide (n ≤ 122)) := by decide +kernel
  have := h c.toNat c.toNat_lt
  rwa [UInt8.ofNat_toNat] at this
theorem dropWhile_nil {α : Type} (p : α → Bool) : ∀ l : List α, (l.dropWhile p = [] ↔ l.all p = true)
  | [] => by simp
  | a :: l => by
    rw [List.dropWhile_cons, List.all_cons]
    by_cases h : p a = true
    · rw [if_pos h, dropWhile_nil p l]; simp [h]
    · rw [if_neg h]; simp [h]
theorem takeWhile_all {α : Type} (p : α → Bool) : ∀ l : List α, (l.takeWhile p).all p = true
  | [] => rfl
  | a :: l => by
    rw [List.takeWhile_cons]
    by_cases h : p a = true
    · rw [if_pos h, List.all_cons, h, takeWhile_all p l]; rfl
    · rw [if_neg h]; rfl
theorem trim_nil (w : B) : (Lib.trimS w az = []) ↔ (w.all fun c => decide (97 ≤ c.toNat) && decide (c.toNat ≤ 122)) = true := by
  have e : (fun c : UInt8 => decide (97 ≤ c.toNat) && decide (c.toNat ≤ 122)) = (az.contains ·) := by funext c; exact (az_contains c).symm
  rw [e]
  unfold Lib.trimS Lib.trimLeftS Lib.trimRightS
  rw [dropWhile_nil, List.all_reverse]
  constructor
  · intro h
    have h2 : (w.reverse.takeWhile (az.contains ·)).all (az.contains ·) = true := by
      exact takeWhile_all _ _
    have h3 := List.takeWhile_append_dropWhile (p := (az.contains ·)) (l := w.reverse)
    rw [← List.all_reverse, ← h3, List.all_append, h2, h]; rfl
  · intro h
    rw [List.all_eq_true] at h ⊢
    intro x hx
    exact h x (List.mem_reverse.1 (List.dropWhile_suffix _ |>.subset hx))
end Go.Proofs.YtfiacgkhkonilaaGreatDoor

/-
  DERIVED: THE SHELF's CONTRACTS AT THIS DUMP, IN PLAIN WORDS (tools/lay-plain.mjs out of 'YtfiacgkhkonilaaGreatDoorShelf.lean', which tools/lay-shelf.mjs wrote): THE SAME DECLARATIONS UNDER THE SAME NAMES: 'import', 'namespace', 'open', 'def', 'theorem' AND NOTHING ELSE: no command of the shelf's: FOR A HAND-IN. Each laying: the table of numbers ('.._ren') and one theorem, a field a fact of the dump's own or the kernel's comparison; each contract: ONE APPLICATION.
-/
namespace Go.Proofs
open Go.Shelf
def Tryz.lays156_ren : Go.Shelf.Ren := ⟨fun | 156 => 31 | 165 => 49 | 166 => 50 | 169 => 51 | 240 => 64 | 241 => 65 | 276 => 78 | 277 => 79 | n => n, fun | 31 => 33 | 9 => 9 | 3 => 3 | 4 => 4 | 0 => 0 | 20 => 20 | 72 => 101 | 76 => 103 | 70 => 99 | 37 => 35 | 75 => 25 | 127 => 129 | 164 => 85 | 5 => 5 | 80 => 105 | n => n, fun | n => n⟩
theorem Tryz.lays156 : Go.Proofs.Lays.n156 Tryz.prog Tryz.lays156_ren := {
  mixed := by kernel_rfl
  f156 := Tryz.func31.trans (congrArg some (by kernel_rfl))
  f165 := Tryz.func49.trans (congrArg some (by kernel_rfl))
  f166 := Tryz.func50.trans (congrArg some (by kernel_rfl))
  f169 := Tryz.func51.trans (congrArg some (by kernel_rfl))
  f240 := Tryz.func64.trans (congrArg some (by kernel_rfl))
  f241 := Tryz.func65.trans (congrArg some (by kernel_rfl))
  f276 := Tryz.func78.trans (congrArg some (by kernel_rfl))
  f277 := Tryz.func79.trans (congrArg some (by kernel_rfl))
  t0 := Tryz.underlying0
  a0 := Tryz.isAgg0
  z0 := Tryz.sizeOf0
  v0 := Tryz.zeroValue0
  t3 := Tryz.underlying3
  a3 := Tryz.isAgg3
  z3 := Tryz.sizeOf3
  v3 := Tryz.zeroValue3
  t4 := Tryz.underlying4
  a4 := Tryz.isAgg4
  z4 := Tryz.sizeOf4
  v4 := Tryz.zeroValue4
  t9 := Tryz.underlying9
  a9 := Tryz.isAgg9
  z9 := Tryz.sizeOf9
  v9 := Tryz.zeroValue9
  t20 := Tryz.underlying20
  a20 := Tryz.isAgg20
  z20 := Tryz.sizeOf20
  v20 := Tryz.zeroValue20
  t31 := Tryz.underlying33
  a31 := Tryz.isAgg33
  z31 := Tryz.sizeOf33
  v31 := Tryz.zeroValue33
  t37 := Tryz.underlying35
  a37 := Tryz.isAgg35
  z37 := Tryz.sizeOf35
  v37 := Tryz.zeroValue35
  t70 := Tryz.underlying99
  a70 := Tryz.isAgg99
  z70 := Tryz.sizeOf99
  v70 := Tryz.zeroValue99
  t72 := Tryz.underlying101
  a72 := Tryz.isAgg101
  z72 := Tryz.sizeOf101
  v72 := Tryz.zeroValue101
  t75 := Tryz.underlying25
  a75 := Tryz.isAgg25
  z75 := Tryz.sizeOf25
  v75 := Tryz.zeroValue25
  t76 := Tryz.underlying103
  a76 := Tryz.isAgg103
  z76 := Tryz.sizeOf103
  v76 := Tryz.zeroValue103
  t127 := Tryz.underlying129
  a127 := Tryz.isAgg129
  z127 := Tryz.sizeOf129
  v127 := Tryz.zeroValue129
  t164 := Tryz.underlying85
  a164 := Tryz.isAgg85
  z164 := Tryz.sizeOf85
  v164 := Tryz.zeroValue85 }
theorem Tryz.Builder_Extra_156 : Builder.Extra Tryz.prog Tryz.lays156_ren := {
  sizeBuilder := by kernel_rfl
  liesBuilder := by kernel_rfl
  t5 := Tryz.underlying5
  a5 := Tryz.isAgg5
  z5 := Tryz.sizeOf5
  v5 := Tryz.zeroValue5
  infoByte := by kernel_rfl
  cellsByte := by kernel_rfl
  sizeByte := by kernel_rfl
  neB5 := by decide }
open Go.RowKit in
/-- No element: the empty string; the world is as it was. (Whatever the slice's address and capacity: a nil slice too.) (LAID: no walk: one application.) -/
theorem Tryz.strings_Join_none (a : Option Addr) (c : Nat) (sep : ByteArray) (w : World) :
    Calls Tryz.prog 31 #[.slice a 0 c, .string sep] w fun e w' => e = .returned (.string ⟨#[]⟩) ∧ w' = w := Any.strings_Join_none Tryz.lays156 Tryz.Builder_Extra_156 a c sep w
open Go.RowKit in
/-- strings.Join: "Join concatenates the elements of its first argument to create a single string. The separator string sep is placed between elements in the resulting string.": HOWEVER MANY ELEMENTS. Below the heap's end the world is as it was. (LAID: no walk: one application.) -/
theorem Tryz.strings_Join (bk o c : Nat) (xs : List ByteArray) (sep : ByteArray) (w : World) (hcells : ∀ (j : Nat) x, xs[j]? = some x → w.cell? ⟨bk, o + j, none⟩ = some (.string x)) (hbk : bk < w.heap.size) (hN : xs.length ≤ 140737488355328) (hcap : xs.length ≤ c) (hlen : (Lib.join (xs.map (·.data.toList)) sep.data.toList).length ≤ 140737488355328) :
    Calls Tryz.prog 31 #[.slice (some ⟨bk, o, none⟩) xs.length c, .string sep] w fun e w' => e = .returned (.string ⟨(Lib.join (xs.map (·.data.toList)) sep.data.toList).toArray⟩) ∧ Below w.heap.size w w' := Any.strings_Join Tryz.lays156 Tryz.Builder_Extra_156 bk o c xs sep w hcells hbk hN hcap hlen
def Tryz.lays137_ren : Go.Shelf.Ren := ⟨fun | 137 => 58 | 217 => 67 | 266 => 80 | n => n, fun | 9 => 9 | 5 => 5 | 3 => 3 | n => n, fun | n => n⟩
theorem Tryz.lays137 : Go.Proofs.Lays.n137 Tryz.prog Tryz.lays137_ren := {
  mixed := by kernel_rfl
  f137 := Tryz.func58.trans (congrArg some (by kernel_rfl))
  f217 := Tryz.func67.trans (congrArg some (by kernel_rfl))
  f266 := Tryz.func80.trans (congrArg some (by kernel_rfl))
  t3 := Tryz.underlying3
  a3 := Tryz.isAgg3
  z3 := Tryz.sizeOf3
  v3 := Tryz.zeroValue3
  t5 := Tryz.underlying5
  a5 := Tryz.isAgg5
  z5 := Tryz.sizeOf5
  v5 := Tryz.zeroValue5
  t9 := Tryz.underlying9
  a9 := Tryz.isAgg9
  z9 := Tryz.sizeOf9
  v9 := Tryz.zeroValue9 }
open Go.RowKit in
/-- strings.IndexByte: "IndexByte returns the index of the first instance of c in s, or -1 if c is not present in s.": IT RETURNS 'Lib.indexByte s c'; the world is as it was. (LAID: no walk: one application.) -/
theorem Tryz.strings_IndexByte (s : ByteArray) (c : Int) (w : World) :
    Calls Tryz.prog 58 #[.string s, .int .u8 c] w fun e w' => e = .returned (.int .i64 (Lib.indexByte s.data.toList c.toNat.toUInt8)) ∧ w' = w := Any.strings_IndexByte Tryz.lays137 s c w
def Tryz.laysM173_ren : Go.Shelf.Ren := ⟨fun | 173 => 48 | 246 => 63 | 283 => 74 | 284 => 75 | 285 => 76 | 286 => 77 | 129 => 92 | 317 => 91 | 318 => 93 | 319 => 94 | 320 => 95 | 337 => 104 | 338 => 105 | n => n, fun | 2 => 2 | 3 => 3 | 9 => 9 | 4 => 4 | 171 => 136 | 0 => 0 | 53 => 114 | 37 => 35 | 5 => 5 | 173 => 139 | 212 => 159 | 51 => 147 | 20 => 20 | 213 => 160 | 46 => 98 | 232 => 176 | 233 => 177 | n => n, fun | 17 => 4 | 18 => 7 | 19 => 8 | n => n⟩
theorem Tryz.laysM173 : Go.Proofs.LaysM.n173 Tryz.prog Tryz.laysM173_ren := {
  mixed := by kernel_rfl
  f129 := Tryz.func92.trans (congrArg some (by kernel_rfl))
  f173 := Tryz.func48.trans (congrArg some (by kernel_rfl))
  f246 := Tryz.func63.trans (congrArg some (by kernel_rfl))
  f283 := Tryz.func74.trans (congrArg some (by kernel_rfl))
  f284 := Tryz.func75.trans (congrArg some (by kernel_rfl))
  f285 := Tryz.func76.trans (congrArg some (by kernel_rfl))
  f286 := Tryz.func77.trans (congrArg some (by kernel_rfl))
  f317 := Tryz.func91.trans (congrArg some (by kernel_rfl))
  f318 := Tryz.func93.trans (congrArg some (by kernel_rfl))
  f319 := Tryz.func94.trans (congrArg some (by kernel_rfl))
  f320 := Tryz.func95.trans (congrArg some (by kernel_rfl))
  f337 := Tryz.func104.trans (congrArg some (by kernel_rfl))
  f338 := Tryz.func105.trans (congrArg some (by kernel_rfl))
  t0 := Tryz.underlying0
  a0 := Tryz.isAgg0
  z0 := Tryz.sizeOf0
  v0 := Tryz.zeroValue0
  t2 := Tryz.underlying2
  a2 := Tryz.isAgg2
  z2 := Tryz.sizeOf2
  v2 := Tryz.zeroValue2
  t3 := Tryz.underlying3
  a3 := Tryz.isAgg3
  z3 := Tryz.sizeOf3
  v3 := Tryz.zeroValue3
  t4 := Tryz.underlying4
  a4 := Tryz.isAgg4
  z4 := Tryz.sizeOf4
  v4 := Tryz.zeroValue4
  t5 := Tryz.underlying5
  a5 := Tryz.isAgg5
  z5 := Tryz.sizeOf5
  v5 := Tryz.zeroValue5
  t9 := Tryz.underlying9
  a9 := Tryz.isAgg9
  z9 := Tryz.sizeOf9
  v9 := Tryz.zeroValue9
  t20 := Tryz.underlying20
  a20 := Tryz.isAgg20
  z20 := Tryz.sizeOf20
  v20 := Tryz.zeroValue20
  t37 := Tryz.underlying35
  a37 := Tryz.isAgg35
  z37 := Tryz.sizeOf35
  v37 := Tryz.zeroValue35
  t46 := Tryz.underlying98
  a46 := Tryz.isAgg98
  z46 := Tryz.sizeOf98
  v46 := Tryz.zeroValue98
  t51 := Tryz.underlying147
  a51 := Tryz.isAgg147
  z51 := Tryz.sizeOf147
  v51 := Tryz.zeroValue147
  t53 := Tryz.underlying114
  a53 := Tryz.isAgg114
  z53 := Tryz.sizeOf114
  v53 := Tryz.zeroValue114
  t171 := Tryz.underlying136
  a171 := Tryz.isAgg136
  z171 := Tryz.sizeOf136
  v171 := Tryz.zeroValue136
  t173 := Tryz.underlying139
  a173 := Tryz.isAgg139
  z173 := Tryz.sizeOf139
  v173 := Tryz.zeroValue139
  t212 := Tryz.underlying159
  a212 := Tryz.isAgg159
  z212 := Tryz.sizeOf159
  v212 := Tryz.zeroValue159
  t213 := Tryz.underlying160
  a213 := Tryz.isAgg160
  z213 := Tryz.sizeOf160
  t232 := Tryz.underlying176
  a232 := Tryz.isAgg176
  z232 := Tryz.sizeOf176
  v232 := Tryz.zeroValue176
  t233 := Tryz.underlying177
  a233 := Tryz.isAgg177
  z233 := Tryz.sizeOf177
  v233 := Tryz.zeroValue177
  g17 := by kernel_rfl
  g18 := by kernel_rfl
  g19 := by kernel_rfl
  i0 := by kernel_rfl
  i2 := by kernel_rfl
  i3 := by kernel_rfl
  i4 := by kernel_rfl
  i5 := by kernel_rfl
  i9 := by kernel_rfl
  i20 := by kernel_rfl
  i37 := by kernel_rfl
  i46 := by kernel_rfl
  i51 := by kernel_rfl
  i53 := by kernel_rfl
  i171 := by kernel_rfl
  i173 := by kernel_rfl
  i212 := by kernel_rfl
  i232 := by kernel_rfl
  i233 := by kernel_rfl
  m17 := by kernel_rfl
  m18 := by kernel_rfl
  m19 := by kernel_rfl }
open Go.RowKit Go.Sort Go.Lib in
/-- strconv.FormatInt: "FormatInt returns the string representation of i in the given base": AT BASE 10: i's decimal numeral, for every int64. (LAID: no walk: one application.) -/
theorem Tryz.strconv_FormatInt_10 (n : Int) (h0 : -9223372036854775808 ≤ n) (h1 : n ≤ 9223372036854775807) (w : World) (htab : Lib.TabIs Tryz.prog w "internal/strconv.uint64pow10" .u64 Lib.pow10Tab) :
    Calls Tryz.prog 48 #[.int .i64 n, .int .i64 10] w fun e w' => e = .returned (.string ⟨(Lib.itoa n).toArray⟩) ∧ ∃ k os, w' = grow (w.drewN k) os := Any.strconv_FormatInt_10 Tryz.laysM173 n h0 h1 w htab
def Tryz.laysC174_ren : Go.Shelf.Ren := ⟨fun | 174 => 73 | 247 => 89 | 245 => 90 | 287 => 99 | 279 => 100 | 280 => 101 | 281 => 102 | 282 => 103 | 321 => 108 | 322 => 109 | 316 => 110 | 171 => 112 | 205 => 111 | 243 => 114 | 246 => 63 | 283 => 74 | 284 => 75 | 285 => 76 | 286 => 77 | 129 => 92 | 317 => 91 | 318 => 93 | 319 => 94 | 320 => 95 | 337 => 104 | 338 => 105 | n => n, fun | 9 => 9 | 3 => 3 | 2 => 2 | 75 => 25 | 85 => 133 | 4 => 4 | 167 => 163 | 5 => 5 | 53 => 114 | 175 => 164 | 46 => 98 | 168 => 166 | 37 => 35 | 0 => 0 | 210 => 174 | 21 => 21 | 127 => 129 | 145 => 180 | 143 => 178 | 171 => 136 | 173 => 139 | 212 => 159 | 51 => 147 | 20 => 20 | 213 => 160 | 232 => 176 | 233 => 177 | 80 => 105 | n => n, fun | 15 => 5 | 16 => 6 | 17 => 4 | 18 => 7 | 19 => 8 | n => n⟩
theorem Tryz.laysC174 : Go.Proofs.LaysC.n174 Tryz.prog Tryz.laysC174_ren := {
  mixed := by kernel_rfl
  f129 := Tryz.func92.trans (congrArg some (by kernel_rfl))
  f171 := Tryz.func112.trans (congrArg some (by kernel_rfl))
  f174 := Tryz.func73.trans (congrArg some (by kernel_rfl))
  f205 := Tryz.func111.trans (congrArg some (by kernel_rfl))
  f243 := Tryz.func114.trans (congrArg some (by kernel_rfl))
  f245 := Tryz.func90.trans (congrArg some (by kernel_rfl))
  f246 := Tryz.func63.trans (congrArg some (by kernel_rfl))
  f247 := Tryz.func89.trans (congrArg some (by kernel_rfl))
  f279 := Tryz.func100.trans (congrArg some (by kernel_rfl))
  f280 := Tryz.func101.trans (congrArg some (by kernel_rfl))
  f281 := Tryz.func102.trans (congrArg some (by kernel_rfl))
  f282 := Tryz.func103.trans (congrArg some (by kernel_rfl))
  f283 := Tryz.func74.trans (congrArg some (by kernel_rfl))
  f284 := Tryz.func75.trans (congrArg some (by kernel_rfl))
  f285 := Tryz.func76.trans (congrArg some (by kernel_rfl))
  f286 := Tryz.func77.trans (congrArg some (by kernel_rfl))
  f287 := Tryz.func99.trans (congrArg some (by kernel_rfl))
  f316 := Tryz.func110.trans (congrArg some (by kernel_rfl))
  f317 := Tryz.func91.trans (congrArg some (by kernel_rfl))
  f318 := Tryz.func93.trans (congrArg some (by kernel_rfl))
  f319 := Tryz.func94.trans (congrArg some (by kernel_rfl))
  f320 := Tryz.func95.trans (congrArg some (by kernel_rfl))
  f321 := Tryz.func108.trans (congrArg some (by kernel_rfl))
  f322 := Tryz.func109.trans (congrArg some (by kernel_rfl))
  f337 := Tryz.func104.trans (congrArg some (by kernel_rfl))
  f338 := Tryz.func105.trans (congrArg some (by kernel_rfl))
  t0 := Tryz.underlying0
  a0 := Tryz.isAgg0
  z0 := Tryz.sizeOf0
  v0 := Tryz.zeroValue0
  t2 := Tryz.underlying2
  a2 := Tryz.isAgg2
  z2 := Tryz.sizeOf2
  v2 := Tryz.zeroValue2
  t3 := Tryz.underlying3
  a3 := Tryz.isAgg3
  z3 := Tryz.sizeOf3
  v3 := Tryz.zeroValue3
  t4 := Tryz.underlying4
  a4 := Tryz.isAgg4
  z4 := Tryz.sizeOf4
  v4 := Tryz.zeroValue4
  t5 := Tryz.underlying5
  a5 := Tryz.isAgg5
  z5 := Tryz.sizeOf5
  v5 := Tryz.zeroValue5
  t9 := Tryz.underlying9
  a9 := Tryz.isAgg9
  z9 := Tryz.sizeOf9
  v9 := Tryz.zeroValue9
  t20 := Tryz.underlying20
  a20 := Tryz.isAgg20
  z20 := Tryz.sizeOf20
  v20 := Tryz.zeroValue20
  t21 := Tryz.underlying21
  a21 := Tryz.isAgg21
  z21 := Tryz.sizeOf21
  v21 := Tryz.zeroValue21
  t37 := Tryz.underlying35
  a37 := Tryz.isAgg35
  z37 := Tryz.sizeOf35
  v37 := Tryz.zeroValue35
  t46 := Tryz.underlying98
  a46 := Tryz.isAgg98
  z46 := Tryz.sizeOf98
  v46 := Tryz.zeroValue98
  t51 := Tryz.underlying147
  a51 := Tryz.isAgg147
  z51 := Tryz.sizeOf147
  v51 := Tryz.zeroValue147
  t53 := Tryz.underlying114
  a53 := Tryz.isAgg114
  z53 := Tryz.sizeOf114
  v53 := Tryz.zeroValue114
  t75 := Tryz.underlying25
  a75 := Tryz.isAgg25
  z75 := Tryz.sizeOf25
  v75 := Tryz.zeroValue25
  t85 := Tryz.underlying133
  a85 := Tryz.isAgg133
  z85 := Tryz.sizeOf133
  v85 := Tryz.zeroValue133
  t127 := Tryz.underlying129
  a127 := Tryz.isAgg129
  z127 := Tryz.sizeOf129
  v127 := Tryz.zeroValue129
  t143 := Tryz.underlying178
  a143 := Tryz.isAgg178
  z143 := Tryz.sizeOf178
  v143 := Tryz.zeroValue178
  t145 := Tryz.underlying180
  a145 := Tryz.isAgg180
  z145 := Tryz.sizeOf180
  v145 := Tryz.zeroValue180
  t167 := Tryz.underlying163
  a167 := Tryz.isAgg163
  z167 := Tryz.sizeOf163
  v167 := Tryz.zeroValue163
  t168 := Tryz.underlying166
  a168 := Tryz.isAgg166
  z168 := Tryz.sizeOf166
  v168 := Tryz.zeroValue166
  t171 := Tryz.underlying136
  a171 := Tryz.isAgg136
  z171 := Tryz.sizeOf136
  v171 := Tryz.zeroValue136
  t173 := Tryz.underlying139
  a173 := Tryz.isAgg139
  z173 := Tryz.sizeOf139
  v173 := Tryz.zeroValue139
  t175 := Tryz.underlying164
  a175 := Tryz.isAgg164
  z175 := Tryz.sizeOf164
  v175 := Tryz.zeroValue164
  t210 := Tryz.underlying174
  a210 := Tryz.isAgg174
  z210 := Tryz.sizeOf174
  v210 := Tryz.zeroValue174
  t212 := Tryz.underlying159
  a212 := Tryz.isAgg159
  z212 := Tryz.sizeOf159
  v212 := Tryz.zeroValue159
  t213 := Tryz.underlying160
  a213 := Tryz.isAgg160
  z213 := Tryz.sizeOf160
  t232 := Tryz.underlying176
  a232 := Tryz.isAgg176
  z232 := Tryz.sizeOf176
  v232 := Tryz.zeroValue176
  t233 := Tryz.underlying177
  a233 := Tryz.isAgg177
  z233 := Tryz.sizeOf177
  v233 := Tryz.zeroValue177
  g15 := by kernel_rfl
  g16 := by kernel_rfl
  g17 := by kernel_rfl
  g18 := by kernel_rfl
  g19 := by kernel_rfl
  t80 := Tryz.underlying105
  a80 := Tryz.isAgg105
  z80 := Tryz.sizeOf105
  v80 := Tryz.zeroValue105
  i0 := by kernel_rfl
  i2 := by kernel_rfl
  i3 := by kernel_rfl
  i4 := by kernel_rfl
  i5 := by kernel_rfl
  i9 := by kernel_rfl
  i20 := by kernel_rfl
  i21 := by kernel_rfl
  i37 := by kernel_rfl
  i46 := by kernel_rfl
  i51 := by kernel_rfl
  i53 := by kernel_rfl
  i75 := by kernel_rfl
  i80 := by kernel_rfl
  i85 := by kernel_rfl
  i127 := by kernel_rfl
  i143 := by kernel_rfl
  i145 := by kernel_rfl
  i167 := by kernel_rfl
  i168 := by kernel_rfl
  i171 := by kernel_rfl
  i173 := by kernel_rfl
  i175 := by kernel_rfl
  i210 := by kernel_rfl
  i212 := by kernel_rfl
  i232 := by kernel_rfl
  i233 := by kernel_rfl
  m15 := by kernel_rfl
  m16 := by kernel_rfl
  m17 := by kernel_rfl
  m18 := by kernel_rfl
  m19 := by kernel_rfl
  c0 := by kernel_rfl
  c2 := by kernel_rfl
  c3 := by kernel_rfl
  c4 := by kernel_rfl
  c5 := by kernel_rfl
  c9 := by kernel_rfl
  c20 := by kernel_rfl
  c21 := by kernel_rfl
  c37 := by kernel_rfl
  c46 := by kernel_rfl
  c51 := by kernel_rfl
  c53 := by kernel_rfl
  c75 := by kernel_rfl
  c80 := by kernel_rfl
  c85 := by kernel_rfl
  c127 := by kernel_rfl
  c143 := by kernel_rfl
  c145 := by kernel_rfl
  c167 := by kernel_rfl
  c168 := by kernel_rfl
  c171 := by kernel_rfl
  c173 := by kernel_rfl
  c175 := by kernel_rfl
  c210 := by kernel_rfl
  c212 := by kernel_rfl
  c213 := by kernel_rfl
  c232 := by kernel_rfl
  c233 := by kernel_rfl }
open Go.RowKit in
/-- strconv.ParseInt(s, 10, 64), AT EVERY STRING THAT SPELLS AN int64 ('Lib.parseIntB 64 s.data.toList = .ok v'): v, AND NO ERROR. (LAID: no walk: one application.) -/
theorem Tryz.strconv_ParseInt_10_at64_ok (s : ByteArray) (hmax : s.size ≤ 9223372036854775806) (v : Int) (h : Lib.parseIntB 64 s.data.toList = .ok v) (w : World) :
    Calls Tryz.prog 73 #[.string s, .int .i64 10, .int .i64 64] w fun e w' => e = .returned (.tuple #[.int .i64 v, .nilIface]) ∧ (w' = w ∨ ∃ t, w' = Lib.bytesWorld w 5 t) := Any.strconv_ParseInt_10_at64_ok Tryz.laysC174 s hmax v h w
open Go.RowKit in
theorem Tryz.strconv_ParseInt_10_at64_syntax_var (s : ByteArray) (hlim : s.size ≤ 281474976710656) (h1 : ∀ v, Lib.parseIntB 64 s.data.toList ≠ .ok v) (h2 : Lib.parseIntB 64 s.data.toList ≠ .range) (tp : TypeId) (p : Value) (w : World) (hvar : w.var? Tryz.prog "strconv.ErrSyntax" = some #[.iface tp p]) :
    Calls Tryz.prog 73 #[.string s, .int .i64 10, .int .i64 64] w fun e w' => ∃ N, e = .returned (.tuple #[.int .i64 (0), .iface 166 (.pointer (some ⟨N, 0, none⟩))]) ∧ w.heap.size ≤ N ∧ w'.heap[N]? = some (.cells #[.string ⟨#[80, 97, 114, 115, 101, 73, 110, 116]⟩, .string s, .iface tp p] 174 (0, 0)) ∧ Below w.heap.size w w' := Any.strconv_ParseInt_10_at64_syntax_var Tryz.laysC174 s hlim (by cases hp : Lib.parseIntB 64 s.data.toList with | ok v => exact absurd hp (h1 v) | range => exact absurd hp h2 | _ => rfl) tp p w hvar
open Go.RowKit in
theorem Tryz.strconv_ParseInt_10_at64_range_var (s : ByteArray) (hlim : s.size ≤ 281474976710656) (h : Lib.parseIntB 64 s.data.toList = .range) (tp : TypeId) (p : Value) (w : World) (hvar : w.var? Tryz.prog "strconv.ErrRange" = some #[.iface tp p]) :
    Calls Tryz.prog 73 #[.string s, .int .i64 10, .int .i64 64] w fun e w' => ∃ N, e = .returned (.tuple #[.int .i64 (Lib.intSat 64 s.data.toList), .iface 166 (.pointer (some ⟨N, 0, none⟩))]) ∧ w.heap.size ≤ N ∧ w'.heap[N]? = some (.cells #[.string ⟨#[80, 97, 114, 115, 101, 73, 110, 116]⟩, .string s, .iface tp p] 174 (0, 0)) ∧ Below w.heap.size w w' := Any.strconv_ParseInt_10_at64_range_var Tryz.laysC174 s hlim h tp p w hvar
def Tryz.lays219_ren : Go.Shelf.Ren := ⟨fun | 219 => 55 | 217 => 67 | 225 => 68 | 224 => 69 | 267 => 70 | 266 => 80 | 314 => 81 | n => n, fun | 9 => 9 | 3 => 3 | 4 => 4 | 5 => 5 | 46 => 98 | 146 => 148 | 51 => 147 | n => n, fun | 1 => 1 | n => n⟩
theorem Tryz.lays219 : Go.Proofs.Lays.n219 Tryz.prog Tryz.lays219_ren := {
  mixed := by kernel_rfl
  f217 := Tryz.func67.trans (congrArg some (by kernel_rfl))
  f219 := Tryz.func55.trans (congrArg some (by kernel_rfl))
  f224 := Tryz.func69.trans (congrArg some (by kernel_rfl))
  f225 := Tryz.func68.trans (congrArg some (by kernel_rfl))
  f266 := Tryz.func80.trans (congrArg some (by kernel_rfl))
  f267 := Tryz.func70.trans (congrArg some (by kernel_rfl))
  f314 := Tryz.func81.trans (congrArg some (by kernel_rfl))
  t3 := Tryz.underlying3
  a3 := Tryz.isAgg3
  z3 := Tryz.sizeOf3
  v3 := Tryz.zeroValue3
  t4 := Tryz.underlying4
  a4 := Tryz.isAgg4
  z4 := Tryz.sizeOf4
  v4 := Tryz.zeroValue4
  t5 := Tryz.underlying5
  a5 := Tryz.isAgg5
  z5 := Tryz.sizeOf5
  v5 := Tryz.zeroValue5
  t9 := Tryz.underlying9
  a9 := Tryz.isAgg9
  z9 := Tryz.sizeOf9
  v9 := Tryz.zeroValue9
  t46 := Tryz.underlying98
  a46 := Tryz.isAgg98
  z46 := Tryz.sizeOf98
  v46 := Tryz.zeroValue98
  t51 := Tryz.underlying147
  a51 := Tryz.isAgg147
  z51 := Tryz.sizeOf147
  v51 := Tryz.zeroValue147
  t146 := Tryz.underlying148
  a146 := Tryz.isAgg148
  z146 := Tryz.sizeOf148
  v146 := Tryz.zeroValue148
  g1 := by kernel_rfl }
open Go.RowKit Go.Lib in
/-- internal/stringslite.Index (what strings.Index calls) AT A substr OF ONE BYTE c: IT RETURNS 'Lib.indexByte s c'; the world is as it was. (LAID: no walk: one application.) -/
theorem Tryz.stringslite_Index_one (s : ByteArray) (c : UInt8) (w : World) :
    Calls Tryz.prog 55 #[.string s, .string ⟨#[c]⟩] w fun e w' => e = .returned (.int .i64 (Lib.indexByte s.data.toList c)) ∧ w' = w := Any.stringslite_Index_one Tryz.lays219 s c w
def Tryz.lays143_ren : Go.Shelf.Ren := ⟨fun | 143 => 54 | 219 => 55 | 217 => 67 | 225 => 68 | 224 => 69 | 267 => 70 | 266 => 80 | 314 => 81 | n => n, fun | 9 => 9 | 3 => 3 | 4 => 4 | 5 => 5 | 46 => 98 | 146 => 148 | 51 => 147 | n => n, fun | 1 => 1 | n => n⟩
theorem Tryz.lays143 : Go.Proofs.Lays.n143 Tryz.prog Tryz.lays143_ren := {
  mixed := by kernel_rfl
  f143 := Tryz.func54.trans (congrArg some (by kernel_rfl))
  f217 := Tryz.func67.trans (congrArg some (by kernel_rfl))
  f219 := Tryz.func55.trans (congrArg some (by kernel_rfl))
  f224 := Tryz.func69.trans (congrArg some (by kernel_rfl))
  f225 := Tryz.func68.trans (congrArg some (by kernel_rfl))
  f266 := Tryz.func80.trans (congrArg some (by kernel_rfl))
  f267 := Tryz.func70.trans (congrArg some (by kernel_rfl))
  f314 := Tryz.func81.trans (congrArg some (by kernel_rfl))
  t3 := Tryz.underlying3
  a3 := Tryz.isAgg3
  z3 := Tryz.sizeOf3
  v3 := Tryz.zeroValue3
  t4 := Tryz.underlying4
  a4 := Tryz.isAgg4
  z4 := Tryz.sizeOf4
  v4 := Tryz.zeroValue4
  t5 := Tryz.underlying5
  a5 := Tryz.isAgg5
  z5 := Tryz.sizeOf5
  v5 := Tryz.zeroValue5
  t9 := Tryz.underlying9
  a9 := Tryz.isAgg9
  z9 := Tryz.sizeOf9
  v9 := Tryz.zeroValue9
  t46 := Tryz.underlying98
  a46 := Tryz.isAgg98
  z46 := Tryz.sizeOf98
  v46 := Tryz.zeroValue98
  t51 := Tryz.underlying147
  a51 := Tryz.isAgg147
  z51 := Tryz.sizeOf147
  v51 := Tryz.zeroValue147
  t146 := Tryz.underlying148
  a146 := Tryz.isAgg148
  z146 := Tryz.sizeOf148
  v146 := Tryz.zeroValue148
  g1 := by kernel_rfl }
open Go.RowKit Go.Lib in
/-- strings.Index: "Index returns the index of the first instance of substr in s, or -1 if substr is not present in s.": AT A substr OF ONE BYTE c: IT RETURNS 'Lib.indexByte s c'; the world is as it was. (LAID: no walk: one application.) -/
theorem Tryz.strings_Index_one (s : ByteArray) (c : UInt8) (w : World) :
    Calls Tryz.prog 54 #[.string s, .string ⟨#[c]⟩] w fun e w' => e = .returned (.int .i64 (Lib.indexByte s.data.toList c)) ∧ w' = w := Any.strings_Index_one Tryz.lays143 s c w
def Tryz.lays229_ren : Go.Shelf.Ren := ⟨fun | 229 => 20 | n => n, fun | 9 => 9 | 40 => 54 | 31 => 33 | 152 => 69 | 3 => 3 | 0 => 0 | 4 => 4 | 21 => 21 | 154 => 71 | n => n, fun | n => n⟩
theorem Tryz.lays229 : Go.Proofs.Lays.n229 Tryz.prog Tryz.lays229_ren := {
  mixed := by kernel_rfl
  f229 := Tryz.func20.trans (congrArg some (by kernel_rfl))
  t0 := Tryz.underlying0
  a0 := Tryz.isAgg0
  z0 := Tryz.sizeOf0
  v0 := Tryz.zeroValue0
  t3 := Tryz.underlying3
  a3 := Tryz.isAgg3
  z3 := Tryz.sizeOf3
  v3 := Tryz.zeroValue3
  t4 := Tryz.underlying4
  a4 := Tryz.isAgg4
  z4 := Tryz.sizeOf4
  v4 := Tryz.zeroValue4
  t9 := Tryz.underlying9
  a9 := Tryz.isAgg9
  z9 := Tryz.sizeOf9
  v9 := Tryz.zeroValue9
  t21 := Tryz.underlying21
  a21 := Tryz.isAgg21
  z21 := Tryz.sizeOf21
  v21 := Tryz.zeroValue21
  t31 := Tryz.underlying33
  a31 := Tryz.isAgg33
  z31 := Tryz.sizeOf33
  v31 := Tryz.zeroValue33
  t40 := Tryz.underlying54
  a40 := Tryz.isAgg54
  z40 := Tryz.sizeOf54
  v40 := Tryz.zeroValue54
  t152 := Tryz.underlying69
  a152 := Tryz.isAgg69
  z152 := Tryz.sizeOf69
  v152 := Tryz.zeroValue69
  t154 := Tryz.underlying71
  a154 := Tryz.isAgg71
  z154 := Tryz.sizeOf71
  v154 := Tryz.zeroValue71 }
open Go.RowKit Go.Lib in
theorem Tryz.strings_FieldsFunc_runes (g : Nat) (lb : Array Value) (eg : ∀ args w, (callFunc g args).run Tryz.prog w = .ok (.enter g args) w) (p : Nat → Bool) (s : ByteArray) (w : World) (hs : s.size ≤ 4294967296) (hp : PredAtRunes Tryz.prog g lb p w) :
    Calls Tryz.prog 20 #[.string s, .func (.func g) #[] lb] w fun e w' => ∃ A, e = .returned (.slice (some ⟨A, 0, none⟩) (Lib.goFieldsP p s).length (Lib.goFieldsP p s).length) ∧ w.heap.size ≤ A ∧
      w'.ownsRow w.heap.size 9 1 (.slice (some ⟨A, 0, none⟩) (Lib.goFieldsP p s).length (Lib.goFieldsP p s).length) (Lib.goFieldsP p s).length ((Lib.goFieldsP p s).map Value.string) ∧ Below w.heap.size w w' := Any.strings_FieldsFunc_runes Tryz.lays229 g lb eg p s w hs hp (by kernel_rfl) (by kernel_rfl)
def Tryz.laysTrim160_ren : Go.Shelf.Ren := ⟨fun | 160 => 71 | 232 => 83 | 231 => 82 | 227 => 84 | 234 => 86 | 233 => 85 | 236 => 88 | 235 => 87 | 228 => 96 | 271 => 98 | 151 => 97 | 197 => 53 | 120 => 107 | 152 => 106 | 260 => 66 | 137 => 58 | 119 => 113 | 224 => 69 | 225 => 68 | 217 => 67 | 266 => 80 | n => n, fun | 9 => 9 | 4 => 4 | 3 => 3 | 5 => 5 | 117 => 153 | 116 => 152 | 0 => 0 | 124 => 156 | 21 => 21 | 105 => 106 | 46 => 98 | 119 => 143 | 139 => 146 | 138 => 145 | n => n, fun | 3 => 2 | 4 => 3 | n => n⟩
theorem Tryz.laysTrim160 : Go.Proofs.Lays.n160 Tryz.prog Tryz.laysTrim160_ren := {
  mixed := by kernel_rfl
  f119 := Tryz.func113.trans (congrArg some (by kernel_rfl))
  f120 := Tryz.func107.trans (congrArg some (by kernel_rfl))
  f137 := Tryz.func58.trans (congrArg some (by kernel_rfl))
  f151 := Tryz.func97.trans (congrArg some (by kernel_rfl))
  f152 := Tryz.func106.trans (congrArg some (by kernel_rfl))
  f160 := Tryz.func71.trans (congrArg some (by kernel_rfl))
  f197 := Tryz.func53.trans (congrArg some (by kernel_rfl))
  f217 := Tryz.func67.trans (congrArg some (by kernel_rfl))
  f224 := Tryz.func69.trans (congrArg some (by kernel_rfl))
  f225 := Tryz.func68.trans (congrArg some (by kernel_rfl))
  f227 := Tryz.func84.trans (congrArg some (by kernel_rfl))
  f228 := Tryz.func96.trans (congrArg some (by kernel_rfl))
  f231 := Tryz.func82.trans (congrArg some (by kernel_rfl))
  f232 := Tryz.func83.trans (congrArg some (by kernel_rfl))
  f233 := Tryz.func85.trans (congrArg some (by kernel_rfl))
  f234 := Tryz.func86.trans (congrArg some (by kernel_rfl))
  f235 := Tryz.func87.trans (congrArg some (by kernel_rfl))
  f236 := Tryz.func88.trans (congrArg some (by kernel_rfl))
  f260 := Tryz.func66.trans (congrArg some (by kernel_rfl))
  f266 := Tryz.func80.trans (congrArg some (by kernel_rfl))
  f271 := Tryz.func98.trans (congrArg some (by kernel_rfl))
  t0 := Tryz.underlying0
  a0 := Tryz.isAgg0
  z0 := Tryz.sizeOf0
  v0 := Tryz.zeroValue0
  t3 := Tryz.underlying3
  a3 := Tryz.isAgg3
  z3 := Tryz.sizeOf3
  v3 := Tryz.zeroValue3
  t4 := Tryz.underlying4
  a4 := Tryz.isAgg4
  z4 := Tryz.sizeOf4
  v4 := Tryz.zeroValue4
  t5 := Tryz.underlying5
  a5 := Tryz.isAgg5
  z5 := Tryz.sizeOf5
  v5 := Tryz.zeroValue5
  t9 := Tryz.underlying9
  a9 := Tryz.isAgg9
  z9 := Tryz.sizeOf9
  v9 := Tryz.zeroValue9
  t21 := Tryz.underlying21
  a21 := Tryz.isAgg21
  z21 := Tryz.sizeOf21
  v21 := Tryz.zeroValue21
  t46 := Tryz.underlying98
  a46 := Tryz.isAgg98
  z46 := Tryz.sizeOf98
  v46 := Tryz.zeroValue98
  t105 := Tryz.underlying106
  a105 := Tryz.isAgg106
  z105 := Tryz.sizeOf106
  v105 := Tryz.zeroValue106
  t116 := Tryz.underlying152
  a116 := Tryz.isAgg152
  z116 := Tryz.sizeOf152
  t117 := Tryz.underlying153
  a117 := Tryz.isAgg153
  z117 := Tryz.sizeOf153
  v117 := Tryz.zeroValue153
  t119 := Tryz.underlying143
  a119 := Tryz.isAgg143
  z119 := Tryz.sizeOf143
  t124 := Tryz.underlying156
  a124 := Tryz.isAgg156
  z124 := Tryz.sizeOf156
  v124 := Tryz.zeroValue156
  t138 := Tryz.underlying145
  a138 := Tryz.isAgg145
  z138 := Tryz.sizeOf145
  v138 := Tryz.zeroValue145
  t139 := Tryz.underlying146
  a139 := Tryz.isAgg146
  z139 := Tryz.sizeOf146
  v139 := Tryz.zeroValue146
  g3 := by kernel_rfl
  g4 := by kernel_rfl }
end Go.Proofs

/- The walks of script.named and script.blank's use: a name is a word of 1 to 16 small letters. -/
namespace Go.Proofs.YtfiacgkhkonilaaGreatDoor
open Go Go.RowKit Go.Shelf Go.Proofs.YtfiacgkhkonilaaGreatDoorW.PrintWords

theorem trim_az (s : ByteArray) (w : World) (hs : s.size ≤ 9223372036854775807) :
    Calls Tryz.prog 71 #[.string s, .string ⟨#[97, 98, 99, 100, 101, 102, 103, 104, 105, 106, 107, 108, 109, 110, 111, 112, 113, 114, 115, 116, 117, 118, 119, 120, 121, 122]⟩] w fun e w' => e = .returned (.string (mk (Lib.trimS s.data.toList az))) ∧ Below w.heap.size w w' :=
  Any.strings_Trim_laid Tryz.laysTrim160 (by kernel_rfl) s _ w hs (by decide) (ascii_of_all (by decide))

theorem ret_bool {a b : Bool} (h : a = b) : Ending.returned (.bool a) = .returned (.bool b) := by rw [h]

set_option maxRecDepth 100000 in
theorem named_any (s : ByteArray) (w : World) (hs : s.size ≤ 140737488351232) :
    Calls Tryz.prog 56 #[.string s] w fun e w' => e = .returned (.bool (isName s.data.toList)) ∧ Below w.heap.size w w' := by
  have hl := Lib.size_eq s
  have ht := trim_az s w (by omega)
  have HT := Lib.hid ht
  have HL := Lib.hid hl
  clear ht hl
  by_cases h1 : 1 ≤ s.size
  · by_cases h2 : s.size ≤ 16
    · have e1 : (1 : Int) ≤ (s.size : Int) := by omega
      have e2 : (s.size : Int) ≤ 16 := by omega
      go_enter Tryz.func56, Tryz.ntmps56
      go_wp2_with (go_at_call 71; refine HT.out.mono ?_; rintro e w1 ⟨rfl, hb⟩)
      go_ret
      exact ⟨ret_bool (by rw [isName, ← HL.out, decide_eq_true h1, decide_eq_true h2, Lib.toList_data, mk_data]; cases hh : Lib.trimS s.data.toList az with | nil => simp [(trim_nil _).1 hh] | cons a l => have := mt (trim_nil s.data.toList).2 (by rw [hh]; simp); simp only [Bool.not_eq_true] at this; simp [this]), hb⟩
    · have e1 : (1 : Int) ≤ (s.size : Int) := by omega
      have e2 : ¬ (s.size : Int) ≤ 16 := by omega
      go_enter Tryz.func56, Tryz.ntmps56
      go_wp2
      go_ret
      exact ⟨ret_bool (by rw [isName, ← HL.out, decide_eq_false h2]; simp), Below.refl _ _⟩
  · have e1 : ¬ (1 : Int) ≤ (s.size : Int) := by omega
    go_enter Tryz.func56, Tryz.ntmps56
    go_wp2
    go_ret
    exact ⟨ret_bool (by rw [isName, ← HL.out, decide_eq_false h1]; simp), Below.refl _ _⟩
end Go.Proofs.YtfiacgkhkonilaaGreatDoor

/- What the walks ask of the library's own variables; that it stays; script.number; numbers and text of the library. -/
namespace Go.Proofs.YtfiacgkhkonilaaGreatDoor
open Go Go.RowKit Go.Shelf Go.Proofs.YtfiacgkhkonilaaGreatDoorW.PrintWords

structure Env (w : World) : Prop where
  size : 9 ≤ w.heap.size
  pow : Lib.TabIs Tryz.prog w "internal/strconv.uint64pow10" .u64 Lib.pow10Tab
  syn : ∃ tp p, w.var? Tryz.prog "strconv.ErrSyntax" = some #[.iface tp p]
  rng : ∃ tp p, w.var? Tryz.prog "strconv.ErrRange" = some #[.iface tp p]
  typ : w.cell? ⟨0, 0, none⟩ = some (.iface 116 (.agg #[.pointer (some ⟨9, 25, none⟩)]))
theorem g4 : Tryz.prog.globalNamed "internal/strconv.uint64pow10" = some 4 := by kernel_rfl
theorem g5 : Tryz.prog.globalNamed "strconv.ErrSyntax" = some 5 := by kernel_rfl
theorem g6 : Tryz.prog.globalNamed "strconv.ErrRange" = some 6 := by kernel_rfl
theorem Env.below {w w1 : World} (h : Env w) (hb : Below w.heap.size w w1) : Env w1 where
  size := Nat.le_trans h.size hb.size
  pow := var?_below hb g4 (by have := h.size; omega) h.pow
  syn := by obtain ⟨tp, p, e⟩ := h.syn; exact ⟨tp, p, var?_below hb g5 (by have := h.size; omega) e⟩
  rng := by obtain ⟨tp, p, e⟩ := h.rng; exact ⟨tp, p, var?_below hb g6 (by have := h.size; omega) e⟩
  typ := (hb.cell (p := ⟨0, 0, none⟩) (by have := h.size; show 0 < w.heap.size; omega)).trans h.typ

theorem format_any (n : Int) (h0 : -9223372036854775808 ≤ n) (h1 : n ≤ 9223372036854775807) (w : World) (he : Env w) :
    Calls Tryz.prog 48 #[.int .i64 n, .int .i64 10] w fun e w' => e = .returned (.string (mk (Lib.itoa n))) ∧ Below w.heap.size w w' :=
  (Tryz.strconv_FormatInt_10 n h0 h1 w he.pow).mono fun e w' ⟨h, k, os, hw⟩ => ⟨h, by rw [hw]; exact Lib.below_grow _ _ (Nat.le_refl _) k os⟩
theorem parse_ok (s : ByteArray) (hs : s.size ≤ 140737488351232) (v : Int) (h : Lib.parseIntB 64 s.data.toList = .ok v) (w : World) :
    Calls Tryz.prog 73 #[.string s, .int .i64 10, .int .i64 64] w fun e w' => e = .returned (.tuple #[.int .i64 v, .nilIface]) ∧ Below w.heap.size w w' :=
  (Tryz.strconv_ParseInt_10_at64_ok s (by omega) v h w).mono fun e w' ⟨h, hw⟩ => ⟨h, by
    rcases hw with rfl | ⟨t, rfl⟩
    · exact Below.refl _ _
    · exact bytes_below (Below.refl _ _) (Nat.le_refl _) _ _⟩
theorem parse_no (s : ByteArray) (hs : s.size ≤ 140737488351232) (h : ∀ v, Lib.parseIntB 64 s.data.toList ≠ .ok v) (w : World) (he : Env w) :
    Calls Tryz.prog 73 #[.string s, .int .i64 10, .int .i64 64] w fun e w' => (∃ x p, e = .returned (.tuple #[.int .i64 x, .iface 166 p])) ∧ Below w.heap.size w w' := by
  by_cases hr : Lib.parseIntB 64 s.data.toList = .range
  · obtain ⟨tp, p, hv⟩ := he.rng
    exact (Tryz.strconv_ParseInt_10_at64_range_var s (by omega) hr tp p w hv).mono fun e w' ⟨N, h, _, _, hb⟩ => ⟨⟨_, _, h⟩, hb⟩
  · obtain ⟨tp, p, hv⟩ := he.syn
    exact (Tryz.strconv_ParseInt_10_at64_syntax_var s (by omega) h hr tp p w hv).mono fun e w' ⟨N, h, _, _, hb⟩ => ⟨⟨_, _, h⟩, hb⟩

end Go.Proofs.YtfiacgkhkonilaaGreatDoor

/- What the rows' lists give the walks; a world that meets the lists. -/
namespace Go.Proofs.YtfiacgkhkonilaaGreatDoor
open Go.ChangeShapes Go.WideShapes Go.ChangeAt Go.RowKit

def laid7 : List (String × DataW Unit) := [("math/bits.deBruijn32tab", Rows.laid_math_bits_deBruijn32tab), ("math/bits.deBruijn64tab", Rows.laid_math_bits_deBruijn64tab), ("internal/strconv.uint64pow10", Rows.laid_internal_strconv_uint64pow10), ("unicode/utf8.acceptRanges", Rows.laid_unicode_utf8_acceptRanges), ("strconv.ErrRange", Rows.laid_strconv_ErrRange), ("strconv.ErrSyntax", Rows.laid_strconv_ErrSyntax), ("unicode/utf8.first", Rows.laid_unicode_utf8_first)]
def laid8 : List (String × DataW Unit) := Rows.scriptReadsRow.laid
theorem own : ownKnob Tryz.prog.godebug = none := by kernel_rfl
theorem gt0 : Tryz.prog.globalNamed "errors.errorType" = some 0 := by kernel_rfl
theorem gt4 : (Tryz.prog.globals[4]?).map (·.type) = some 159 := by kernel_rfl
theorem gt5 : (Tryz.prog.globals[5]?).map (·.type) = some 25 := by kernel_rfl
theorem gt6 : (Tryz.prog.globals[6]?).map (·.type) = some 25 := by kernel_rfl
theorem gt8 : Tryz.prog.globalNamed "math/bits.deBruijn64tab" = some 8 := by kernel_rfl
theorem rtType : (Tryz.prog.cutTypes.find? (·.1 == "internal/reflectlite.rtype")).map (·.2) = some 116 := by kernel_rfl
theorem oneRow : ((List.range Tryz.prog.types.size).filter fun t => Tryz.prog.rowNamed t [101, 114, 114, 111, 114]) = [25] := by kernel_rfl
theorem powData : (Rows.laid_internal_strconv_uint64pow10 : DataW Unit) = Lib.tabData .u64 Lib.pow10Tab := by kernel_rfl

theorem tab_of_reads {P : Program} {W : World} {name : String} {k : IntKind} {zs : List Int} {g : Nat} {t e : TypeId} {n : Nat}
    (hg : P.globalNamed name = some g) (hty : (P.globals[g]?).map (·.type) = some t) (ht : P.underlying t = some (.array n e)) (he : P.underlying e = some (.int k)) (hce : P.cellsOf e = 1) (hct : P.cellsOf t = n)
    (h : Lib.VarReads P W name (Lib.tabData k zs)) : Lib.TabIs P W name k zs := by
  obtain ⟨g', t', cs, fuel, p, hg', ht', hvar, hd⟩ := h
  obtain rfl := Option.some.inj (hg.symm.trans hg')
  obtain rfl := Option.some.inj (hty.symm.trans ht')
  unfold Lib.TabIs
  rw [hvar, ← Lib.cells_of_tab ht he hce hct hd]
theorem iface_of_reads {P : Program} {W : World} {name nm : String} {d : DataW Unit} {g : Nat} {t : TypeId} {ms : Array (String × TypeId)}
    (hg : P.globalNamed name = some g) (hty : (P.globals[g]?).map (·.type) = some t) (ht : P.underlying t = some (.interface ms)) (h : Lib.VarReads P W name (.iface nm d)) : ∃ tp p, W.var? P name = some #[.iface tp p] := by
  obtain ⟨g', t', cs, fuel, p, hg', ht', hvar, hd⟩ := h
  obtain rfl := Option.some.inj (hg.symm.trans hg')
  obtain rfl := Option.some.inj (hty.symm.trans ht')
  obtain ⟨_, u, v, hc, _⟩ := iface_of_trod ht hd
  exact ⟨u, v, by rw [hvar, Array.eq_one_of_toList hc]⟩
theorem size_of_reads {P : Program} {W : World} {name : String} {d : DataW Unit} {g : Nat} (hg : P.globalNamed name = some g) (h : Lib.VarReads P W name d) : g < W.heap.size := by
  obtain ⟨g', t', cs, fuel, p, hg', ht', hvar, hd⟩ := h
  unfold World.var? at hvar
  rw [hg] at hvar
  simp only [Option.bind_some] at hvar
  rcases Nat.lt_or_ge g W.heap.size with h' | h'
  · exact h'
  · simp [Array.getElem?_eq_none h'] at hvar

theorem handle_of {W : World} (h : handlesMet Tryz.prog [("errors.errorType", Rows.laid_errors_errorType)] W) : W.cell? ⟨0, 0, none⟩ = some (.iface 116 (.agg #[.pointer (some ⟨9, 25, none⟩)])) := by
  obtain ⟨name, u, ty, e1, e2, e3, e4, e5⟩ := h _ (List.mem_singleton.2 rfl)
  have en : name = [101, 114, 114, 111, 114] := (Option.some.inj e1).symm
  subst en
  obtain rfl := Option.some.inj (rtType.symm.trans e2)
  have hm : ty ∈ (List.range Tryz.prog.types.size).filter fun t => Tryz.prog.rowNamed t [101, 114, 114, 111, 114] := List.mem_filter.2 ⟨List.mem_range.2 e3, e4⟩
  rw [oneRow] at hm
  obtain rfl := List.mem_singleton.1 hm
  have hh : typeHandle Tryz.prog 25 = .pointer (some ⟨9, 25, none⟩) := by kernel_rfl
  rw [hh] at e5
  simpa using World.var?_cell gt0 e5 0

theorem env_of_laid {W : World} (h : laidMetH Tryz.prog laid8 W) : Env W := by
  have h' : laidMet Tryz.prog laid7 W ∧ handlesMet Tryz.prog [("errors.errorType", Rows.laid_errors_errorType)] W := h
  refine ⟨?_, ?_, ?_, ?_, handle_of h'.2⟩
  · exact size_of_reads gt8 (Lib.laidMet.reads h'.1 (.tail _ (.head _)))
  · exact tab_of_reads g4 gt4 Tryz.underlying159 Tryz.underlying114 (by kernel_rfl) (by kernel_rfl) (powData ▸ Lib.laidMet.reads h'.1 (.tail _ (.tail _ (.head _))))
  · exact iface_of_reads g5 gt5 Tryz.underlying25 (Lib.laidMet.reads h'.1 (.tail _ (.tail _ (.tail _ (.tail _ (.tail _ (.head _)))))))
  · exact iface_of_reads g6 gt6 Tryz.underlying25 (Lib.laidMet.reads h'.1 (.tail _ (.tail _ (.tail _ (.tail _ (.head _))))))

/-- A world that meets the lists: the settled one, the handle's cell set, the other variables laid. -/
noncomputable def handleWorld (os : Os) : World :=
  { World.holding Tryz.prog os ⟨#[], #[], []⟩ with heap := (World.holding Tryz.prog os ⟨#[], #[], []⟩).heap.modify 0 fun
      | .cells _ t frozen => .cells #[.iface 116 (.agg #[.pointer (some ⟨9, 25, none⟩)])] t frozen
      | o => o }
noncomputable def laidWorld (os : Os) : World := (handleWorld os).layVars Tryz.prog laid7
theorem laidWorld_os (os : Os) : (laidWorld os).os = os := World.layVars_os _ _ _
theorem laid7_met (os : Os) : laidMet Tryz.prog laid7 (laidWorld os) := by
  have e1 : (laid7.filter fun x => (laid7.map (·.1)).contains x.1) = laid7 := List.filter_eq_self.2 fun x hx => List.contains_iff_mem.2 (List.mem_map.2 ⟨x, hx, rfl⟩)
  have e2 : (laid7.filter fun x => !(laid7.map (·.1)).contains x.1) = [] := List.filter_eq_nil_iff.2 fun x hx => by rw [List.contains_iff_mem.2 (List.mem_map.2 ⟨x, hx, rfl⟩)]; simp
  exact laidMet_layVars (w0 := handleWorld os) (laid7.map (·.1)) [] (by rw [e1]; rfl) (by rw [e1]; kernel_rfl) (by rw [e1]; kernel_rfl) (by rw [e2]; exact LaidIn.none)
theorem laidWorld_met (os : Os) (args : Array Value) : laidMetH Tryz.prog laid8 ((laidWorld os).forCall (fun _ _ => 0) ⟨#[], args, []⟩).memory := by
  have h : laidMetH Tryz.prog laid8 (laidWorld os) := laidMetH_of_parts (laid7_met os) (by kernel_rfl)
  exact h.of_heap (by simp [World.memory, World.forCall, Input.heap])
end Go.Proofs.YtfiacgkhkonilaaGreatDoor

/- Decimal numbers: which words are numbers, twice told; no program in sight. -/
namespace Go.Proofs.YtfiacgkhkonilaaGreatDoor
open Go Go.Lib

def dstep (a : Nat) (c : UInt8) : Nat := a * 10 + (c.toNat - 48)
def dval (acc : Nat) (l : B) : Nat := l.foldl dstep acc
theorem dval_nil (acc : Nat) : dval acc [] = acc := rfl
theorem dval_cons (acc : Nat) (c : UInt8) (r : B) : dval acc (c :: r) = dval (acc * 10 + (c.toNat - 48)) r := by
  unfold dval
  rw [List.foldl_cons]
  rfl
def isDig (c : UInt8) : Bool := decide (48 ≤ c.toNat) && decide (c.toNat ≤ 57)
def allDig (l : B) : Bool := l.all isDig
theorem dval_app (a b : B) (acc : Nat) : dval acc (a ++ b) = dval (dval acc a) b := by
  unfold dval
  rw [List.foldl_append]
theorem dval_acc (l : B) (acc : Nat) : dval acc l = acc * 10 ^ l.length + dval 0 l := by
  induction l generalizing acc with
  | nil => simp [dval_nil]
  | cons c r ih =>
    rw [dval_cons, dval_cons, ih, ih (0 * 10 + (c.toNat - 48)), List.length_cons, Nat.pow_succ, Nat.add_mul, Nat.zero_mul, Nat.zero_add]
    have : acc * 10 * 10 ^ r.length = acc * (10 ^ r.length * 10) := by rw [Nat.mul_assoc, Nat.mul_comm 10]
    omega
theorem dval_le (l : B) (acc : Nat) : acc ≤ dval acc l := by
  rw [dval_acc]
  have : acc * 1 ≤ acc * 10 ^ l.length := Nat.mul_le_mul_left _ (Nat.one_le_pow _ _ (by omega))
  omega
theorem dval_lt : ∀ (l : B), allDig l = true → dval 0 l < 10 ^ l.length
  | [], _ => by simp [dval_nil]
  | c :: r, h => by
    simp only [allDig, List.all_cons, Bool.and_eq_true] at h
    have h2 := dval_lt r h.2
    have h1 := h.1
    simp only [isDig, Bool.and_eq_true, decide_eq_true_eq] at h1
    rw [dval_cons, dval_acc, List.length_cons, Nat.pow_succ]
    have : (0 * 10 + (c.toNat - 48)) * 10 ^ r.length ≤ 9 * 10 ^ r.length := Nat.mul_le_mul_right _ (by omega)
    omega
theorem dig_of (u : Nat) (h : u < 10) : isDig (UInt8.ofNat (48 + u)) = true ∧ (UInt8.ofNat (48 + u)).toNat = 48 + u := by
  have : ∀ n, n < 10 → isDig (UInt8.ofNat (48 + n)) = true ∧ (UInt8.ofNat (48 + n)).toNat = 48 + n := by decide
  exact this u h
/-- What decDigits gives. -/
theorem dec_facts (u : Nat) : allDig (decDigits u) = true ∧ dval 0 (decDigits u) = u ∧ decDigits u ≠ [] ∧ (10 ≤ u → 10 ^ ((decDigits u).length - 1) ≤ u ∧ 2 ≤ (decDigits u).length) ∧ (u = 0 ∨ (decDigits u).head? ≠ some 48) := by
  induction u using Nat.strongRecOn with
  | _ u ih =>
    rw [decDigits]
    split
    · rename_i h
      obtain ⟨h1, h2⟩ := dig_of u h
      refine ⟨by simp only [allDig, List.all_cons, h1, List.all_nil, Bool.and_self], by simp only [dval_cons, dval_nil, h2]; omega, by simp, fun h' => by omega, ?_⟩
      rcases Nat.eq_zero_or_pos u with h0 | h0
      · exact .inl h0
      · refine .inr fun e => ?_
        have := congrArg UInt8.toNat (Option.some.inj (show some (UInt8.ofNat (48 + u)) = some 48 from e))
        rw [h2] at this
        have e48 : (48 : UInt8).toNat = 48 := rfl
        omega
    · rename_i h
      obtain ⟨h1, h2, h3, h4, h5⟩ := ih (u / 10) (by omega)
      obtain ⟨g1, g2⟩ := dig_of (u % 10) (by omega)
      have hl : 1 ≤ (decDigits (u / 10)).length := by
        cases hd : decDigits (u / 10) with
        | nil => exact absurd hd h3
        | cons a l => simp
      refine ⟨?_, ?_, by simp, fun _ => ⟨?_, ?_⟩, .inr ?_⟩
      · simp only [allDig, List.all_append, List.all_cons, List.all_nil, Bool.and_true, Bool.and_eq_true]
        exact ⟨h1, g1⟩
      · rw [dval_app, h2]; simp only [dval_cons, dval_nil, g2]; omega
      · rw [List.length_append, List.length_singleton, Nat.add_sub_cancel]
        by_cases h10 : 10 ≤ u / 10
        · have := (h4 h10).1
          obtain ⟨k, hk⟩ : ∃ k, (decDigits (u / 10)).length = k + 1 := ⟨_, (Nat.sub_add_cancel hl).symm⟩
          rw [hk] at this ⊢
          rw [Nat.pow_succ]
          simp only [Nat.add_sub_cancel] at this
          omega
        · have : (decDigits (u / 10)).length = 1 := by rw [decDigits, dif_pos (by omega)]; rfl
          rw [this]; omega
      · rw [List.length_append, List.length_singleton]; omega
      · rcases h5 with h5 | h5
        · omega
        · cases hd : decDigits (u / 10) with
          | nil => exact absurd hd h3
          | cons a l => rw [hd] at h5; simpa using h5
/-- Digits without a needless 0 are those of their value. -/
theorem dec_of_val : ∀ (n : Nat) (l : B), l.length = n → allDig l = true → l ≠ [] → (l.head? ≠ some 48 ∨ l.length = 1) → decDigits (dval 0 l) = l := by
  intro n
  induction n using Nat.strongRecOn with
  | _ n ih =>
    intro l hn ha hne hh
    rcases List.eq_nil_or_concat l with h | ⟨r, c, hl⟩
    · exact absurd h hne
    · rw [List.concat_eq_append] at hl
      subst hl
      simp only [allDig, List.all_append, List.all_cons, List.all_nil, Bool.and_true, Bool.and_eq_true] at ha
      have hc := ha.2
      simp only [isDig, Bool.and_eq_true, decide_eq_true_eq] at hc
      have hcc : UInt8.ofNat (48 + (c.toNat - 48)) = c := by rw [show 48 + (c.toNat - 48) = c.toNat by omega]; simp
      rw [dval_app]
      cases r with
      | nil =>
        simp only [dval_cons, dval_nil, List.nil_append]
        rw [decDigits, dif_pos (by omega)]
        simp only [Nat.zero_mul, Nat.zero_add]
        rw [hcc]
      | cons a r =>
        have hh' : a ≠ 48 := by
          rcases hh with h | h
          · simpa using h
          · simp at h
        have hda : isDig a = true := by have := ha.1; simp at this; exact this.1
        simp only [isDig, Bool.and_eq_true, decide_eq_true_eq] at hda
        have ha48 : a.toNat ≠ 48 := fun e => hh' (UInt8.toNat.inj e)
        have ihr := ih (a :: r).length (by rw [← hn]; simp) (a :: r) rfl ha.1 (by simp) (.inl (by simpa using hh'))
        have hpos : 1 ≤ dval 0 (a :: r) := by
          rw [dval_cons]
          have := dval_le r (0 * 10 + (a.toNat - 48))
          omega
        generalize hv : dval 0 (a :: r) = v at *
        simp only [dval_cons, dval_nil]
        rw [decDigits, dif_neg (by omega), show (v * 10 + (c.toNat - 48)) / 10 = v by omega, show (v * 10 + (c.toNat - 48)) % 10 = c.toNat - 48 by omega, ihr, hcc]

/-- parseUintM over digits. -/
theorem parseM_ok : ∀ (l : B) (acc M : Nat), allDig l = true → M < 18446744073709551616 → dval acc l ≤ M → parseUintM M acc l = .ok (dval acc l)
  | [], _, _, _, _, _ => rfl
  | c :: r, acc, M, h, hM, hv => by
    simp only [allDig, List.all_cons, Bool.and_eq_true] at h
    have h1 := h.1
    simp only [isDig, Bool.and_eq_true, decide_eq_true_eq] at h1
    rw [dval_cons] at hv
    have h2 := dval_le r (acc * 10 + (c.toNat - 48))
    rw [parseUintM, if_pos h1, if_neg (by omega), if_neg (by omega), dval_cons]
    exact parseM_ok r _ M h.2 hM hv

/-- The document's way to read a number. -/
def refNum (w : B) : Option Int :=
  let minus := decide (1 < w.length) && decide (w.head? = some 45)
  let t := if minus then w.tail else w
  if t = [] ∨ 19 < t.length ∨ (t.head? = some 48 ∧ (1 < t.length ∨ minus = true)) then none
  else if allDig t = false then none
  else if 9223372036854775808 < dval 0 t ∨ (dval 0 t = 9223372036854775808 ∧ minus = false) then none
  else some (if minus then -(dval 0 t : Int) else dval 0 t)

theorem dec_len (u : Nat) (h : u ≤ 9223372036854775808) : (decDigits u).length ≤ 19 := by
  obtain ⟨_, _, _, h4, _⟩ := dec_facts u
  by_cases h10 : 10 ≤ u
  · have h5 := (h4 h10).1
    rcases Nat.lt_or_ge 19 (decDigits u).length with h6 | h6
    · have : 10 ^ 19 ≤ 10 ^ ((decDigits u).length - 1) := Nat.pow_le_pow_right (by omega) (by omega)
      have e : (10 : Nat) ^ 19 = 10000000000000000000 := by decide
      omega
    · exact h6
  · rw [decDigits, dif_pos (by omega)]; simp

theorem head45 {l : B} (h : allDig l = true) : l.head? ≠ some 45 := by
  cases l with
  | nil => simp
  | cons a r =>
    intro e
    cases e
    simp [allDig, isDig] at h

theorem refNum_itoa (v : Int) (h0 : -9223372036854775808 ≤ v) (h1 : v < 9223372036854775808) : refNum (itoa v) = some v := by
  by_cases hv : v < 0
  · obtain ⟨n, rfl⟩ : ∃ n : Nat, v = -(n : Int) := ⟨v.natAbs, by omega⟩
    have hn : 1 ≤ n := by omega
    obtain ⟨f1, f2, f3, _, f5⟩ := dec_facts n
    have hlen := dec_len n (by omega)
    rw [itoa_neg n hn]
    unfold refNum
    have hm : (decide (1 < (45 :: decDigits n).length) && decide ((45 :: decDigits n).head? = some 45)) = true := by
      have : 0 < (decDigits n).length := List.length_pos_iff.2 f3
      simp; omega
    simp only [hm, if_true, List.tail_cons]
    rw [if_neg, if_neg (by rw [f1]; simp), f2, if_neg (by simp; omega)]
    rintro (h | h | ⟨h, _⟩)
    · exact f3 h
    · omega
    · rcases f5 with f5 | f5
      · omega
      · exact f5 h
  · obtain ⟨n, rfl⟩ : ∃ n : Nat, v = (n : Int) := ⟨v.toNat, by omega⟩
    obtain ⟨f1, f2, f3, _, f5⟩ := dec_facts n
    have hlen := dec_len n (by omega)
    rw [itoa_nonneg]
    unfold refNum
    have hm : (decide (1 < (decDigits n).length) && decide ((decDigits n).head? = some 45)) = false := by
      rw [decide_eq_false (head45 f1)]; simp
    simp only [hm, Bool.false_eq_true, if_false]
    rw [if_neg, if_neg (by rw [f1]; simp), f2, if_neg (by omega)]
    rintro (h | h | ⟨h, h2 | h2⟩)
    · exact f3 h
    · omega
    · rcases f5 with rfl | f5
      · rw [decDigits, dif_pos (by omega)] at h2; simp at h2
      · exact f5 h
    · exact h2
theorem itoa_refNum (w : B) (v : Int) (h : refNum w = some v) : itoa v = w ∧ -9223372036854775808 ≤ v ∧ v < 9223372036854775808 := by
  unfold refNum at h
  by_cases hm : (decide (1 < w.length) && decide (w.head? = some 45)) = true
  · simp only [hm, if_true] at h
    split at h
    · cases h
    · rename_i h1
      split at h
      · cases h
      · rename_i h2
        simp only [Bool.not_eq_false] at h2
        split at h
        · cases h
        · rename_i h3
          cases h
          simp only [Bool.and_eq_true, decide_eq_true_eq] at hm
          have hw : w = 45 :: w.tail := by
            cases w with
            | nil => simp at hm
            | cons a r => simp at hm; rw [hm.2]; rfl
          have hne : w.tail ≠ [] := fun e => h1 (.inl e)
          have hh : w.tail.head? ≠ some 48 := fun e => h1 (.inr (.inr ⟨e, .inr trivial⟩))
          have hd := dec_of_val _ _ rfl h2 hne (.inl hh)
          have hpos : 1 ≤ dval 0 w.tail := by
            rcases Nat.eq_zero_or_pos (dval 0 w.tail) with h0 | h0
            · rw [h0, decDigits, dif_pos (by omega)] at hd
              rw [← hd] at hh; simp at hh
            · exact h0
          refine ⟨?_, by omega, by omega⟩
          rw [itoa_neg _ hpos, hd, ← hw]
  · simp only [Bool.not_eq_true] at hm
    simp only [hm, Bool.false_eq_true, if_false] at h
    split at h
    · cases h
    · rename_i h1
      split at h
      · cases h
      · rename_i h2
        simp only [Bool.not_eq_false] at h2
        split at h
        · cases h
        · rename_i h3
          cases h
          have hne : w ≠ [] := fun e => h1 (.inl e)
          have hlen : 1 ≤ w.length := List.length_pos_iff.2 hne
          have hh : w.head? ≠ some 48 ∨ w.length = 1 := by
            by_cases e : w.head? = some 48
            · right
              rcases Nat.lt_or_ge 1 w.length with h' | h'
              · exact absurd (.inr (.inr ⟨e, .inl h'⟩)) h1
              · omega
            · exact .inl e
          have hd := dec_of_val _ _ rfl h2 hne hh
          simp only [not_or, not_and] at h3
          refine ⟨by rw [itoa_nonneg, hd], by omega, ?_⟩
          have := h3.2
          simp at this
          omega
theorem parse_itoa (v : Int) (h0 : -9223372036854775808 ≤ v) (h1 : v < 9223372036854775808) : parseIntB 64 (itoa v) = .ok v := by
  by_cases hv : v < 0
  · obtain ⟨n, rfl⟩ : ∃ n : Nat, v = -(n : Int) := ⟨v.natAbs, by omega⟩
    have hn : 1 ≤ n := by omega
    obtain ⟨f1, f2, f3, _, f5⟩ := dec_facts n
    rw [itoa_neg n hn]
    unfold parseIntB
    have e : parseUintB 64 (decDigits n) = .ok n := by
      unfold parseUintB
      rw [if_neg f3, parseM_ok _ _ _ f1 (by decide) (by rw [f2]; simp; omega), f2]
    simp only [show (45 : UInt8).toNat = 45 from rfl, or_true, if_true, e, not_true, false_and, if_false, true_and]
    rw [if_neg (by simp; omega)]
  · obtain ⟨n, rfl⟩ : ∃ n : Nat, v = (n : Int) := ⟨v.toNat, by omega⟩
    obtain ⟨f1, f2, f3, _, f5⟩ := dec_facts n
    rw [itoa_nonneg]
    cases hd : decDigits n with
    | nil => exact absurd hd f3
    | cons c r =>
      rw [hd] at f1 f2
      have hc : isDig c = true := by simp [allDig] at f1; exact f1.1
      simp only [isDig, Bool.and_eq_true, decide_eq_true_eq] at hc
      unfold parseIntB
      have e : parseUintB 64 (c :: r) = .ok n := by
        unfold parseUintB
        rw [if_neg (by simp), parseM_ok _ _ _ f1 (by decide) (by rw [f2]; simp; omega), f2]
      have hc1 : ¬ (c.toNat = 43 ∨ c.toNat = 45) := by omega
      have hc2 : ¬ c.toNat = 45 := by omega
      simp only [hc2, not_false_eq_true, true_and, if_false, false_and, or_false]
      rw [if_neg (show ¬ c.toNat = 43 by omega), e]
      simp only []
      rw [if_neg (by simp; omega)]
theorem numOf_ref (w : B) : numOf w = refNum w := by
  have range : ∀ v, parseIntB 64 w = .ok v → -9223372036854775808 ≤ v ∧ v < 9223372036854775808 := fun v h => by
    have := parseIntB_bounds h; simpa using this
  cases hr : refNum w with
  | some v =>
    obtain ⟨h1, h2, h3⟩ := itoa_refNum w v hr
    have hp := parse_itoa v h2 h3
    rw [h1] at hp
    unfold numOf
    rw [hp]; simp [h1]
  | none =>
    unfold numOf
    split
    · rename_i v hp
      split
      · rename_i hi
        obtain ⟨h2, h3⟩ := range v hp
        have := refNum_itoa v h2 h3
        rw [hi, hr] at this; cases this
      · rfl
    · rfl
end Go.Proofs.YtfiacgkhkonilaaGreatDoor

/- The fields of a line: strings.Cut at a note, strings.FieldsFunc at blanks, in the words of the plain definition; strings.SplitSeq's call. -/
namespace Go.Proofs.YtfiacgkhkonilaaGreatDoor
open Go Go.RowKit Go.Shelf Go.Lib Go.Proofs.YtfiacgkhkonilaaGreatDoorW.PrintWords Go.Proofs.YtfiacgkhkonilaaGreatDoor.Pblank

theorem decodeN_low (n b0 b1 b2 b3 : Nat) (h : b0 < 128) : decodeN n b0 b1 b2 b3 = (b0, 1) := by unfold decodeN; rw [if_pos h]
theorem decodeN_high (n b0 b1 b2 b3 : Nat) (hn : 1 ≤ n) (h : ¬ b0 < 128) : 128 ≤ (decodeN n b0 b1 b2 b3).1 ∧ 1 ≤ (decodeN n b0 b1 b2 b3).2 ∧ (decodeN n b0 b1 b2 b3).2 ≤ 4 ∧ (decodeN n b0 b1 b2 b3).2 ≤ n ∧
    (2 ≤ (decodeN n b0 b1 b2 b3).2 → 128 ≤ b1) ∧ (3 ≤ (decodeN n b0 b1 b2 b3).2 → 128 ≤ b2) ∧ (4 ≤ (decodeN n b0 b1 b2 b3).2 → 128 ≤ b3) := by
  unfold decodeN
  rw [if_neg h]
  repeat' split
  all_goals (simp only; omega)

def blankP (x : Nat) : Bool := x == 32 || (x == 9 || x == 13)
theorem blankP_isBlank (c : UInt8) : blankP c.toNat = isBlank c := by
  have h : ∀ n, n < 256 → blankP n = isBlank (UInt8.ofNat n) := by decide +kernel
  have := h c.toNat c.toNat_lt
  rwa [UInt8.ofNat_toNat] at this
theorem blankP_high (x : Nat) (h : 128 ≤ x) : blankP x = false := by
  have h1 : (x == 32) = false := by simp; omega
  have h2 : (x == 9) = false := by simp; omega
  have h3 : (x == 13) = false := by simp; omega
  unfold blankP; rw [h1, h2, h3]; rfl
theorem isBlank_high (c : UInt8) (h : 128 ≤ c.toNat) : isBlank c = false := by rw [← blankP_isBlank]; exact blankP_high _ h

theorem fieldsGo_run : ∀ (r : B) (cur l : B), (∀ c ∈ r, isBlank c = false) → fieldsGo cur (r ++ l) = fieldsGo (cur ++ r) l
  | [], cur, l, _ => by simp
  | c :: r, cur, l, h => by
    have h1 := fieldsGo_run r (cur ++ [c]) l (fun x hx => h x (List.mem_cons_of_mem _ hx))
    rw [List.cons_append, fieldsGo, h c (by simp), if_neg (by simp), h1, List.append_assoc]; rfl

/-- The piece of a text. -/
theorem extract_mk (s : ByteArray) (a b : Nat) : s.extract a b = mk ((s.data.toList.take b).drop a) := by
  apply of_mk
  rw [ByteArray.data_extract]
  simp [Array.toList_extract, List.extract_eq_take_drop, List.drop_take]

/-- What one step over a text that is not blank passes. -/
theorem step_word (s : ByteArray) (pos : Nat) (hp : pos < s.size) (hb : isBlank (s.data.toList.getD pos 0) = false) :
    blankP (Utf8.decode s pos).1 = false ∧ 1 ≤ (Utf8.decode s pos).2 ∧ pos + (Utf8.decode s pos).2 ≤ s.size ∧ ∀ j, pos ≤ j → j < pos + (Utf8.decode s pos).2 → isBlank (s.data.toList.getD j 0) = false := by
  have hsz := size_eq s
  rw [decode_N]
  by_cases h : (s.data.toList.getD pos 0).toNat < 128
  · rw [decodeN_low _ _ _ _ _ h]
    refine ⟨by rw [blankP_isBlank]; exact hb, Nat.le_refl _, by simp only; omega, fun j h1 h2 => ?_⟩
    obtain rfl : j = pos := by simp only at h2; omega
    exact hb
  · obtain ⟨h1, h2, h3, h4, h5, h6, h7⟩ := decodeN_high (s.data.toList.length - pos) (s.data.toList.getD pos 0).toNat (s.data.toList.getD (pos + 1) 0).toNat (s.data.toList.getD (pos + 2) 0).toNat (s.data.toList.getD (pos + 3) 0).toNat (by omega) h
    generalize decodeN (s.data.toList.length - pos) (s.data.toList.getD pos 0).toNat (s.data.toList.getD (pos + 1) 0).toNat (s.data.toList.getD (pos + 2) 0).toNat (s.data.toList.getD (pos + 3) 0).toNat = d at *
    refine ⟨blankP_high _ h1, h2, by omega, fun j hj hj2 => isBlank_high _ ?_⟩
    have : j = pos ∨ j = pos + 1 ∨ j = pos + 2 ∨ j = pos + 3 := by omega
    rcases this with rfl | rfl | rfl | rfl
    · omega
    · exact h5 (by omega)
    · exact h6 (by omega)
    · exact h7 (by omega)
theorem step_blank (s : ByteArray) (pos : Nat) (hb : isBlank (s.data.toList.getD pos 0) = true) : Utf8.decode s pos = ((s.data.toList.getD pos 0).toNat, 1) := by
  rw [decode_N]
  apply decodeN_low
  rcases Nat.lt_or_ge (s.data.toList.getD pos 0).toNat 128 with h | h
  · exact h
  · rw [isBlank_high _ h] at hb; cases hb

theorem mem_run (l : B) (pos k : Nat) (h : ∀ j, pos ≤ j → j < pos + k → isBlank (l.getD j 0) = false) : ∀ c ∈ (l.drop pos).take k, isBlank c = false := by
  intro c hc
  rw [List.mem_take_iff_getElem] at hc
  obtain ⟨j, hj, rfl⟩ := hc
  rw [List.getElem_drop]
  have := h (pos + j) (by omega) (by omega)
  rwa [List.getD_eq_getElem?_getD, List.getElem?_eq_getElem (by simp at hj; omega), Option.getD_some] at this

theorem spans_eq (s : ByteArray) : ∀ (f pos : Nat) (st : Option Nat) (acc : List (Nat × Nat)), s.size - pos ≤ f → (∀ a, st = some a → a < pos ∧ pos ≤ s.size) →
    (closeSpans s (spansFromP blankP s f pos st acc)).map (fun x => s.extract x.1 x.2) = acc.map (fun x => s.extract x.1 x.2) ++
      (fieldsGo (match st with | none => [] | some a => (s.data.toList.take pos).drop a) (s.data.toList.drop pos)).map mk
  | 0, pos, st, acc, hf, hst => by
    have hsz := size_eq s
    have e : s.data.toList.drop pos = [] := List.drop_eq_nil_of_le (by omega)
    rw [e]
    cases st with
    | none => simp [spansFromP, closeSpans, fieldsGo]
    | some a =>
      obtain ⟨h1, h2⟩ := hst a rfl
      obtain rfl : pos = s.size := by omega
      have hne : (s.data.toList.take s.size).drop a ≠ [] := by
        intro h
        have := congrArg List.length h
        simp at this; omega
      simp [spansFromP, closeSpans, fieldsGo, hne, extract_mk]
  | f + 1, pos, st, acc, hf, hst => by
    have hsz := size_eq s
    by_cases hp : pos < s.size
    · have hd : s.data.toList.drop pos = s.data.toList.getD pos 0 :: s.data.toList.drop (pos + 1) := by
        rw [List.drop_eq_getElem_cons (by omega), List.getD_eq_getElem?_getD, List.getElem?_eq_getElem (by omega), Option.getD_some]
      by_cases hb : isBlank (s.data.toList.getD pos 0) = true
      · have hdec := step_blank s pos hb
        have hp1 : blankP (s.data.toList.getD pos 0).toNat = true := by rw [blankP_isBlank]; exact hb
        rw [spansFromP.eq_def]
        simp only [if_pos hp, hdec]
        rw [if_pos hp1, hd, fieldsGo, if_pos hb]
        cases st with
        | none =>
          simp only [if_true]
          rw [spans_eq s f (pos + 1) none acc (by omega) (fun a h => by cases h)]
        | some a =>
          obtain ⟨h1, h2⟩ := hst a rfl
          have hne : (s.data.toList.take pos).drop a ≠ [] := by
            intro h
            have := congrArg List.length h
            simp at this; omega
          simp only [if_neg hne]
          rw [spans_eq s f (pos + 1) none (acc ++ [(a, pos)]) (by omega) (fun a h => by cases h), List.map_append, List.append_assoc]
          simp [extract_mk]
      · simp only [Bool.not_eq_true] at hb
        obtain ⟨h1, h2, h3, h4⟩ := step_word s pos hp hb
        rw [spansFromP.eq_def]
        simp only [if_pos hp]
        generalize Utf8.decode s pos = d at *
        obtain ⟨dr, k⟩ := d
        simp only at h1 h2 h3 h4 ⊢
        have hrun := mem_run s.data.toList pos k h4
        have hsplit : s.data.toList.drop pos = (s.data.toList.drop pos).take k ++ s.data.toList.drop (pos + k) := by
          conv => lhs; rw [← List.take_append_drop k (s.data.toList.drop pos), List.drop_drop]
        rw [if_neg (by rw [h1]; simp), hsplit, fieldsGo_run _ _ _ hrun]
        have htk : ∀ a, a ≤ pos → (s.data.toList.take pos).drop a ++ (s.data.toList.drop pos).take k = (s.data.toList.take (pos + k)).drop a := fun a ha => by
          rw [List.take_add, List.drop_append, List.length_take, show a - min pos s.data.toList.length = 0 by omega, List.drop_zero]
        cases st with
        | none =>
          simp only
          rw [spans_eq s f (pos + k) (some pos) acc (by omega) (fun a h => by cases h; omega)]
          have := htk pos (Nat.le_refl _)
          rw [show (s.data.toList.take pos).drop pos = [] from List.drop_eq_nil_of_le (by simp; omega)] at this
          rw [this]
        | some a =>
          obtain ⟨h5, h6⟩ := hst a rfl
          simp only
          rw [spans_eq s f (pos + k) (some a) acc (by omega) (fun a' h => by cases h; omega), htk a (by omega)]
    · have e : s.data.toList.drop pos = [] := List.drop_eq_nil_of_le (by omega)
      rw [spansFromP_end _ _ _ _ _ _ hp, e]
      cases st with
      | none => simp [closeSpans, fieldsGo]
      | some a =>
        obtain ⟨h1, h2⟩ := hst a rfl
        obtain rfl : pos = s.size := by omega
        have hne : (s.data.toList.take s.size).drop a ≠ [] := by
          intro h
          have := congrArg List.length h
          simp at this; omega
        simp [closeSpans, fieldsGo, hne, extract_mk]

theorem fields_eq (s : ByteArray) : goFieldsP blankP s = (fieldsGo [] s.data.toList).map mk := by
  unfold goFieldsP spansOfP
  rw [spans_eq s s.size 0 none [] (by omega) (fun a h => by cases h)]
  simp

theorem blank_pred (w : World) : PredAtRunes Tryz.prog 21 #[] blankP w := fun W x _ _ => by
  refine (script_blank.calls (x : Int) (blankP x) W ?_).mono fun e w' ⟨h, hd⟩ => ⟨h, hd.out⟩
  unfold script_blank.f blankP
  by_cases h1 : x = 32
  · subst h1; rfl
  · by_cases h2 : x = 9
    · subst h2; rfl
    · have e1 : ((x : Int) = 32) = False := by simp; omega
      have e2 : ((x : Int) = 9) = False := by simp; omega
      have e3 : (x == 32) = false := by simpa using h1
      have e4 : (x == 9) = false := by simpa using h2
      simp only [e1, e2, if_false, e3, e4, Bool.false_or]
      congr 1
      by_cases h3 : x = 13
      · subst h3; rfl
      · have e5 : (x == 13) = false := by simpa using h3
        have e6 : ((x : Int) == 13) = false := by simp; omega
        rw [e5, e6]
theorem fields_any (s : ByteArray) (w : World) (hs : s.size ≤ 4294967296) :
    Calls Tryz.prog 20 #[.string s, .func (.func 21) #[] #[]] w fun e w' => ∃ v, e = .returned v ∧ Kd.string.R 9 w' w.heap.size (fun _ => True) v ((fieldsGo [] s.data.toList).map mk) ∧ Below w.heap.size w w' := by
  refine (Tryz.strings_FieldsFunc_runes 21 #[] (enters_of Tryz.func21 (by kernel_rfl) rfl) blankP s w hs (blank_pred w)).mono ?_
  rintro e w' ⟨A, rfl, hA, ho, hb⟩
  refine ⟨_, rfl, ?_, hb⟩
  rw [fields_eq] at ho ⊢
  exact Kd.R_of_own ho (fun _ _ => trivial)

/-- A line without its note. -/
def noteCut (l : B) : B := l.takeWhile (· ≠ 37)
theorem note_none {l : B} (h : Lib.indexByte l 37 = -1) : noteCut l = l := by
  unfold noteCut
  have h1 := Lib.indexByte_none h
  rw [← List.append_nil l, List.takeWhile_append_of_pos, List.takeWhile_nil]
  intro x hx
  obtain ⟨k, hk, rfl⟩ := List.mem_iff_getElem.1 hx
  simp only [ne_eq, decide_not, Bool.not_eq_eq_eq_not, Bool.not_true, decide_eq_false_iff_not]
  intro e
  exact h1 k (by rw [List.getElem?_eq_getElem hk, e])
theorem note_some {l : B} {o : Nat} (h : Lib.indexByte l 37 = o) : noteCut l = l.take o := by
  unfold noteCut
  obtain ⟨h1, h2⟩ := Lib.indexByte_some h
  obtain ⟨hlt, he⟩ := List.getElem?_eq_some_iff.1 h1
  have e : l = l.take o ++ 37 :: l.drop (o + 1) := by
    rw [← he, List.getElem_cons_drop, List.take_append_drop]
  conv => lhs; rw [e]
  rw [List.takeWhile_append_of_pos, List.takeWhile_cons_of_neg (by simp), List.append_nil]
  intro x hx
  rw [List.mem_take_iff_getElem] at hx
  obtain ⟨k, hk, rfl⟩ := hx
  simp only [ne_eq, decide_not, Bool.not_eq_eq_eq_not, Bool.not_true, decide_eq_false_iff_not]
  intro e2
  exact h2 k (by omega) (by rw [List.getElem?_eq_getElem (by omega), e2])

set_option maxRecDepth 100000 in
set_option maxHeartbeats 1000000 in
theorem cut_lite (s : ByteArray) (w : World) (hs : s.size ≤ 140737488351232) :
    Calls Tryz.prog 35 #[.string s, .string ⟨#[37]⟩] w fun e w' => ∃ x y, e = .returned (.tuple #[.string (mk (noteCut s.data.toList)), x, y]) ∧ Below w.heap.size w w' := by
  have hix := Tryz.stringslite_Index_one s 37 w
  have hge := Lib.indexByte_ge s.data.toList 37
  by_cases hi : Lib.indexByte s.data.toList 37 = -1
  · have hn := note_none hi
    rw [hi] at hix
    have HX := Lib.hid hix
    have HN := Lib.hid hn
    clear hix hge hi hn
    go_enter Tryz.func35, Tryz.ntmps35
    go_wp2_with (go_at_call 55; refine HX.out.mono ?_; rintro e w' ⟨rfl, rfl⟩)
    go_ret3
    exact ⟨.string ⟨#[]⟩, .bool false, by rw [HN.out, mk_of]; rfl, Below.refl _ _⟩
  · obtain ⟨o, ho⟩ : ∃ o : Nat, Lib.indexByte s.data.toList 37 = o := ⟨(Lib.indexByte s.data.toList 37).toNat, by omega⟩
    have hn := note_some ho
    have hlt := index_lt ho
    rw [← Lib.size_eq] at hlt
    rw [ho] at hix
    have HX := Lib.hid hix
    have HN := Lib.hid hn
    clear hix hge hi hn ho
    go_enter Tryz.func35, Tryz.ntmps35
    go_wp2_with (go_at_call 55; refine HX.out.mono ?_; rintro e w' ⟨rfl, rfl⟩)
    go_region
    go_wp2
    go_ret3
    have e : s.extract 0 o = mk (s.data.toList.take o) := by rw [extract_mk]; simp
    exact ⟨.string (s.extract (o + 1) s.size), .bool true, by rw [HN.out, ← e]; rfl, (Below.refl _ _).drew⟩

set_option maxRecDepth 100000 in
theorem cut_any (s : ByteArray) (w : World) (hs : s.size ≤ 140737488351232) :
    Calls Tryz.prog 19 #[.string s, .string ⟨#[37]⟩] w fun e w' => ∃ x y, e = .returned (.tuple #[.string (mk (noteCut s.data.toList)), x, y]) ∧ Below w.heap.size w w' := by
  have H := Lib.hid (cut_lite s w hs)
  go_enter Tryz.func19, Tryz.ntmps19
  go_wp2_with (go_at_call 35; refine H.out.mono ?_; rintro e w' ⟨x, y, rfl, hb⟩)
  go_ret3
  exact ⟨x, y, rfl, hb⟩

set_option maxRecDepth 100000 in
theorem split_call (s sep : ByteArray) (w : World) :
    Calls Tryz.prog 34 #[.string s, .string sep, .int .i64 0] w fun e w' => e = .returned (.func (.func 52) #[] #[.pointer (some ⟨w.heap.size + 1, 0, none⟩), .pointer (some ⟨w.heap.size, 0, none⟩), .pointer (some ⟨w.heap.size + 2, 0, none⟩)]) ∧
      w' = ((w.alloc (.cells #[.string s] 9)).alloc (.cells #[.string sep] 9)).alloc (.cells #[.int .i64 0] 3) := by
  go_enter Tryz.func34, Tryz.ntmps34
  go_wp2
  go_ret
  exact ⟨rfl, rfl⟩
set_option maxRecDepth 100000 in
theorem splitseq_call (s sep : ByteArray) (w : World) :
    Calls Tryz.prog 18 #[.string s, .string sep] w fun e w' => e = .returned (.func (.func 52) #[] #[.pointer (some ⟨w.heap.size + 1, 0, none⟩), .pointer (some ⟨w.heap.size, 0, none⟩), .pointer (some ⟨w.heap.size + 2, 0, none⟩)]) ∧
      w' = ((w.alloc (.cells #[.string s] 9)).alloc (.cells #[.string sep] 9)).alloc (.cells #[.int .i64 0] 3) := by
  have H := Lib.hid (split_call s sep w)
  go_enter Tryz.func18, Tryz.ntmps18
  go_wp2_with (go_at_call 34; refine H.out.mono ?_; rintro e w' ⟨rfl, rfl⟩)
  go_ret
  exact ⟨rfl, rfl⟩
end Go.Proofs.YtfiacgkhkonilaaGreatDoor
