/- Part 1 of a proof: Lines, Spec, Shelf, Named, Env, Laid, Iter, Split, Chunk, Number -/
import Derived.Lib.IndexBytes
import Derived.Lib.IndexLaws
import Derived.Lib.Strings
import Derived.Lib.SlTrimSet
import Derived.Lib.ParseIntB
import Derived.Lib.ItoaNum
import Derived.Shelf.Strings.Builder1
import Derived.Shelf.Strings.Builder2
import Derived.Shelf.Strings.OnBuilder
import Derived.Shelf.Strings.Trim
import Derived.Shelf.Small.Utf8
import Derived.Shelf.Small.Strs
import Derived.Shelf.Strconv.Itoa0
import Derived.Shelf.Strconv.Itoa1
import Derived.Shelf.LaysM
import Derived.Shelf.Strconv.Itoa2
import Derived.Shelf.Strconv.Itoa3
import Derived.Shelf.Strconv.Itoa4
import Derived.Shelf.Strconv.ParseIntEmpty
import Derived.Shelf.Strconv.Clone
import Derived.Shelf.Strconv.SyntaxError
import Derived.Shelf.LaysC
import Derived.Shelf.Strconv.ToError
import Derived.Shelf.Strconv.Lower
import Derived.Shelf.Strconv.ParseUint10
import Derived.Shelf.Strconv.ParseUint10Empty
import Derived.Shelf.Strconv.ParseUint10Any
import Derived.Shelf.Strconv.ParseInt10
import Derived.Shelf.Strconv.RangeError
import Derived.Shelf.Strconv.ToErrorRange
import Derived.Shelf.Strconv.ParseUintEmpty
import Derived.Shelf.Strconv.ParseUint10b64
import Derived.Shelf.Strconv.ParseUint10b32
import Derived.Shelf.Strconv.ParseUint10b16
import Derived.Shelf.Strconv.ParseUint10b8
import Derived.Shelf.Strconv.ParseUint10At
import Derived.Shelf.Strconv.ParseInt10At64
import Derived.Shelf.Strconv.ParseInt10At32
import Derived.Shelf.Strconv.ParseInt10At16
import Derived.Shelf.Strconv.ParseInt10At8
import Derived.Shelf.Strconv.ParseInt10All
import Derived.Shelf.Strconv.ParseIntPublic10
import Derived.Shelf.Strconv.ErrVarParseInt
import Derived.Shelf.Strings.Search1
import Derived.Shelf.Strings.Search2
import Derived.Shelf.Strings.Search3
import Derived.Shelf.Strings.Cut
import Derived.Shelf.Strings.Shaped
import Derived.Shelf.Strings.Runes
import Derived.Shelf.Strings.AsciiSet
import Derived.Shelf.Unicode.DecodeSlow
import Derived.Shelf.Unicode.DecodeAny
import Derived.Shelf.Unicode.DecodeLast
import Derived.Shelf.Strings.FieldsFuncAny
import Derived.Shelf.Strings.FieldsFuncGrows
import Derived.Shelf.Slices.Equal
import Derived.Shelf.Slices.Empties2
import Derived.Test.YtfiacgkhkonilaaGreatDoorProg
import Derived.Shelf.Strings.SlTrimAscii
import Derived.Test.YtfiacgkhkonilaaGreatDoorWMore
import Derived.WalkKit
import Derived.Outline
import Derived.Lib.Hide
import Derived.Deep.QuietTactic
import Derived.BigQuiet
import Derived.WalkSmall
import Derived.Lib.AppendIntMem
import Derived.Test.YtfiacgkhkonilaaGreatDoorCards
import Derived.Test.YtfiacgkhkonilaaGreatDoorTie
import Derived.ProofKit
import Derived.OpenShut
import Derived.LaidLaws
import Derived.LaidHandle
import Derived.LaidMore
import Derived.Lay
import Derived.Lib.LaidTab
import Derived.Lib.LaidU8
import Derived.RangeFuncNested
import Derived.RangeFuncBound
import Derived.RangeFuncCalls
import Derived.RangeFuncLeaves
import Derived.OwnWalkIn
import Derived.TacticsInMore
import Derived.LoopNIn
import Derived.LoopIn
import Derived.Shelf.RegionOpen
import Derived.Test.YtfiacgkhkonilaaGreatDoorWWords
import Derived.Sort.BigQuietIn
import Derived.Sort.QuietIn
/- A text as lines, and a line as words: plain definitions and laws, no program in sight. -/
namespace Go.Proofs.YtfiacgkhkonilaaGreatDoor
open Go

abbrev B := List UInt8
def mk (l : B) : ByteArray := ⟨l.toArray⟩
theorem mk_data (l : B) : (mk l).data.toList = l := by simp [mk]
theorem mk_of (b : ByteArray) : mk b.data.toList = b := by simp [mk]
theorem mk_inj {a b : B} (h : mk a = mk b) : a = b := by rw [← mk_data a, h, mk_data]
theorem mk_size (l : B) : (mk l).size = l.length := by rw [Lib.size_eq, mk_data]
theorem of_mk {b : ByteArray} {l : B} (h : b.data.toList = l) : b = mk l := by rw [← h, mk_of]

/-- The lines of a text. -/
def lines : B → List B
  | [] => [[]]
  | c :: r => if c = 10 then [] :: lines r else match lines r with | [] => [[c]] | l :: ls => (c :: l) :: ls
theorem lines_ne : ∀ l, lines l ≠ []
  | [] => by simp [lines]
  | c :: r => by unfold lines; split; simp; split <;> simp
theorem lines_cut : ∀ (a b : B), (∀ k : Nat, a[k]? ≠ some 10) → lines (a ++ 10 :: b) = a :: lines b
  | [], b, _ => by simp [lines]
  | c :: a, b, h => by
    have hc : c ≠ 10 := fun e => h 0 (by simp [e])
    have ih := lines_cut a b (fun k => by have := h (k + 1); simpa using this)
    rw [List.cons_append, lines, if_neg hc, ih]
theorem lines_one : ∀ (a : B), (∀ k : Nat, a[k]? ≠ some 10) → lines a = [a]
  | [], _ => rfl
  | c :: a, h => by
    have hc : c ≠ 10 := fun e => h 0 (by simp [e])
    rw [lines, if_neg hc, lines_one a (fun k => by have := h (k + 1); simpa using this)]
theorem lines_none {l : B} (h : Lib.indexByte l 10 = -1) : lines l = [l] := lines_one l (Lib.indexByte_none h)
theorem lines_some {l : B} {o : Nat} (h : Lib.indexByte l 10 = o) : lines l = l.take o :: lines (l.drop (o + 1)) := by
  obtain ⟨h1, h2⟩ := Lib.indexByte_some h
  have e : l = l.take o ++ 10 :: l.drop (o + 1) := by
    obtain ⟨hlt, he⟩ := List.getElem?_eq_some_iff.1 h1
    rw [← he, List.getElem_cons_drop, List.take_append_drop]
  have hn : ∀ k : Nat, (l.take o)[k]? ≠ some 10 := fun k => by
    by_cases hk : k < o
    · rw [List.getElem?_take_of_lt hk]; exact h2 k hk
    · rw [List.getElem?_eq_none (by rw [List.length_take]; omega)]; intro h; cases h
  have := lines_cut _ (l.drop (o + 1)) hn
  rw [← e] at this
  exact this
theorem index_lt {l : B} {c : UInt8} {o : Nat} (h : Lib.indexByte l c = o) : o < l.length := (List.getElem?_eq_some_iff.1 (Lib.indexByte_some h).1).1
end Go.Proofs.YtfiacgkhkonilaaGreatDoor

/- What a line of words means as a command, and what a text is as commands: plain definitions, no program in sight. -/
namespace Go.Proofs.YtfiacgkhkonilaaGreatDoor
open Go

/-- A command. -/
structure Cmd where
  line : Int
  verb : B
  words : List B
  nums : List Int
  bytes : List Int

def isName (w : B) : Bool := decide (1 ≤ w.length) && (decide (w.length ≤ 16) && w.all fun c => decide (97 ≤ c.toNat) && decide (c.toNat ≤ 122))
def az : B := [97, 98, 99, 100, 101, 102, 103, 104, 105, 106, 107, 108, 109, 110, 111, 112, 113, 114, 115, 116, 117, 118, 119, 120, 121, 122]
def hexa : B := [48, 49, 50, 51, 52, 53, 54, 55, 56, 57, 97, 98, 99, 100, 101, 102]
def numOf (w : B) : Option Int := match Lib.parseIntB 64 w with | .ok v => if Lib.itoa v = w then some v else none | _ => none
def hexVal (c : UInt8) : Int := Lib.indexByte hexa c
def hexOf : B → Option (List Int)
  | [] => some []
  | [_] => none
  | a :: b :: r => if hexVal a < 0 ∨ hexVal b < 0 then none else (hexOf r).map fun l => (hexVal a * 16 + hexVal b) :: l
def bytesWord (w : B) : Option (List Int) := if w = [] then none else hexOf w

structure Need where
  words : Nat
  bytes : Bool
  least : Nat
  most : Nat
  unpaired : Bool
def vSet : B := [115, 101, 116]
def vModel : B := [109, 111, 100, 101, 108]
def vRow : B := [114, 111, 119]
def vStart : B := [115, 116, 97, 114, 116]
def vTracks : B := [116, 114, 97, 99, 107, 115]
def vCounts : B := [99, 111, 117, 110, 116, 115]
def vTime : B := [116, 105, 109, 101]
def vScan : B := [115, 99, 97, 110]
def vRaw : B := [114, 97, 119]
def vConfig : B := [99, 111, 110, 102, 105, 103]
def vTrack : B := [116, 114, 97, 99, 107]
def vCount : B := [99, 111, 117, 110, 116]
def needOf (v : B) : Option Need :=
  if v = vSet then some ⟨1, false, 1, 1, true⟩
  else if v = vModel then some ⟨0, false, 3, 3, true⟩
  else if v = vRow then some ⟨0, false, 1, 4, true⟩
  else if v = vStart ∨ v = vTracks ∨ v = vCounts ∨ v = vTime then some ⟨0, false, 0, 0, true⟩
  else if v = vScan then some ⟨0, false, 3, 129, false⟩
  else if v = vRaw ∨ v = vConfig then some ⟨0, true, 0, 0, true⟩
  else if v = vTrack then some ⟨0, false, 1, 1, true⟩
  else if v = vCount then some ⟨1, false, 0, 0, true⟩
  else none
def Need.right (n : Need) (k : Nat) : Bool := decide (n.least ≤ k) && (decide (k ≤ n.most) && (n.unpaired || decide (k % 2 = 1)))
def numsOf : List B → Option (List Int)
  | [] => some []
  | w :: r => match numOf w with | none => none | some v => (numsOf r).map (v :: ·)
/-- A line's words as a command (its line 0). -/
def readCmd : List B → Option Cmd
  | [] => none
  | v :: rest =>
    match needOf v with
    | none => none
    | some n =>
      if rest.length < n.words then none
      else if (rest.take n.words).all isName = false then none
      else if n.bytes then
        match rest.drop n.words with
        | [x] => (bytesWord x).map fun b => ⟨0, v, rest.take n.words, [], b⟩
        | _ => none
      else if n.right (rest.drop n.words).length then (numsOf (rest.drop n.words)).map fun l => ⟨0, v, rest.take n.words, l, []⟩
      else none

def isBlank (c : UInt8) : Bool := c == 32 || c == 9 || c == 13
/-- The fields of a line: cur is the field that is open. -/
def fieldsGo : B → B → List B
  | cur, [] => if cur = [] then [] else [cur]
  | cur, c :: r => if isBlank c then (if cur = [] then fieldsGo [] r else cur :: fieldsGo [] r) else fieldsGo (cur ++ [c]) r
def wordsOf (l : B) : List B := fieldsGo [] (l.takeWhile (· ≠ 37))
/-- The commands of lines from a number on; or the number of the line that is wrong. -/
def parseLines : Nat → List B → List Cmd → Except Nat (List Cmd)
  | _, [], acc => .ok acc
  | k, l :: r, acc =>
    match wordsOf l with
    | [] => parseLines (k + 1) r acc
    | w => match readCmd w with
      | none => .error (k + 1)
      | some c => parseLines (k + 1) r (acc ++ [{ c with line := (k : Int) + 1 }])

theorem az_contains (c : UInt8) : az.contains c = (decide (97 ≤ c.toNat) && decide (c.toNat ≤ 122)) := by
  have h : ∀ n, n < 256 → az.contains (UInt8.ofNat n) = (decide (97 ≤ n) && decide (n ≤ 122)) := by decide +kernel
  have := h c.toNat c.toNat_lt
  rwa [UInt8.ofNat_toNat] at this
theorem dropWhile_nil {α : Type} (p : α → Bool) : ∀ l : List α, (l.dropWhile p = [] ↔ l.all p = true)
  | [] => by simp
  | a :: l => by
    rw [List.dropWhile_cons, List.all_cons]
    by_cases h : p a = true
    · rw [if_pos h, dropWhile_nil p l]; simp [h]
    · rw [if_neg h]; simp [h]
theorem takeWhile_all {α : Type} (p : α → Bool) : ∀ l : List α, (l.takeWhile p).all p = true
  | [] => rfl
  | a :: l => by
    rw [List.takeWhile_cons]
    by_cases h : p a = true
    · rw [if_pos h, List.all_cons, h, takeWhile_all p l]; rfl
    · rw [if_neg h]; rfl
theorem trim_nil (w : B) : (Lib.trimS w az = []) ↔ (w.all fun c => decide (97 ≤ c.toNat) && decide (c.toNat ≤ 122)) = true := by
  have e : (fun c : UInt8 => decide (97 ≤ c.toNat) && decide (c.toNat ≤ 122)) = (az.contains ·) := by funext c; exact (az_contains c).symm
  rw [e]
  unfold Lib.trimS Lib.trimLeftS Lib.trimRightS
  rw [dropWhile_nil, List.all_reverse]
  constructor
  · intro h
    have h2 : (w.reverse.takeWhile (az.contains ·)).all (az.contains ·) = true := by
      exact takeWhile_all _ _
    have h3 := List.takeWhile_append_dropWhile (p := (az.contains ·)) (l := w.reverse)
    rw [← List.all_reverse, ← h3, List.all_append, h2, h]; rfl
  · intro h
    rw [List.all_eq_true] at h ⊢
    intro x hx
    exact h x (List.mem_reverse.1 (List.dropWhile_suffix _ |>.subset hx))
end Go.Proofs.YtfiacgkhkonilaaGreatDoor

/-
  DERIVED: THE SHELF's CONTRACTS AT THIS DUMP, IN PLAIN WORDS (tools/lay-plain.mjs out of 'YtfiacgkhkonilaaGreatDoorShelf.lean', which tools/lay-shelf.mjs wrote): THE SAME DECLARATIONS UNDER THE SAME NAMES: 'import', 'namespace', 'open', 'def', 'theorem' AND NOTHING ELSE: no command of the shelf's: FOR A HAND-IN. Each laying: the table of numbers ('.._ren') and one theorem, a field a fact of the dump's own or the kernel's comparison; each contract: ONE APPLICATION.
-/
namespace Go.Proofs
open Go.Shelf
def Tryz.lays156_ren : Go.Shelf.Ren := ⟨fun | 156 => 31 | 165 => 49 | 166 => 50 | 169 => 51 | 240 => 64 | 241 => 65 | 276 => 78 | 277 => 79 | n => n, fun | 31 => 33 | 9 => 9 | 3 => 3 | 4 => 4 | 0 => 0 | 20 => 20 | 72 => 101 | 76 => 103 | 70 => 99 | 37 => 35 | 75 => 25 | 127 => 129 | 164 => 85 | 5 => 5 | 80 => 105 | n => n, fun | n => n⟩
theorem Tryz.lays156 : Go.Proofs.Lays.n156 Tryz.prog Tryz.lays156_ren := {
  mixed := by kernel_rfl
  f156 := Tryz.func31.trans (congrArg some (by kernel_rfl))
  f165 := Tryz.func49.trans (congrArg some (by kernel_rfl))
  f166 := Tryz.func50.trans (congrArg some (by kernel_rfl))
  f169 := Tryz.func51.trans (congrArg some (by kernel_rfl))
  f240 := Tryz.func64.trans (congrArg some (by kernel_rfl))
  f241 := Tryz.func65.trans (congrArg some (by kernel_rfl))
  f276 := Tryz.func78.trans (congrArg some (by kernel_rfl))
  f277 := Tryz.func79.trans (congrArg some (by kernel_rfl))
  t0 := Tryz.underlying0
  a0 := Tryz.isAgg0
  z0 := Tryz.sizeOf0
  v0 := Tryz.zeroValue0
  t3 := Tryz.underlying3
  a3 := Tryz.isAgg3
  z3 := Tryz.sizeOf3
  v3 := Tryz.zeroValue3
  t4 := Tryz.underlying4
  a4 := Tryz.isAgg4
  z4 := Tryz.sizeOf4
  v4 := Tryz.zeroValue4
  t9 := Tryz.underlying9
  a9 := Tryz.isAgg9
  z9 := Tryz.sizeOf9
  v9 := Tryz.zeroValue9
  t20 := Tryz.underlying20
  a20 := Tryz.isAgg20
  z20 := Tryz.sizeOf20
  v20 := Tryz.zeroValue20
  t31 := Tryz.underlying33
  a31 := Tryz.isAgg33
  z31 := Tryz.sizeOf33
  v31 := Tryz.zeroValue33
  t37 := Tryz.underlying35
  a37 := Tryz.isAgg35
  z37 := Tryz.sizeOf35
  v37 := Tryz.zeroValue35
  t70 := Tryz.underlying99
  a70 := Tryz.isAgg99
  z70 := Tryz.sizeOf99
  v70 := Tryz.zeroValue99
  t72 := Tryz.underlying101
  a72 := Tryz.isAgg101
  z72 := Tryz.sizeOf101
  v72 := Tryz.zeroValue101
  t75 := Tryz.underlying25
  a75 := Tryz.isAgg25
  z75 := Tryz.sizeOf25
  v75 := Tryz.zeroValue25
  t76 := Tryz.underlying103
  a76 := Tryz.isAgg103
  z76 := Tryz.sizeOf103
  v76 := Tryz.zeroValue103
  t127 := Tryz.underlying129
  a127 := Tryz.isAgg129
  z127 := Tryz.sizeOf129
  v127 := Tryz.zeroValue129
  t164 := Tryz.underlying85
  a164 := Tryz.isAgg85
  z164 := Tryz.sizeOf85
  v164 := Tryz.zeroValue85 }
theorem Tryz.Builder_Extra_156 : Builder.Extra Tryz.prog Tryz.lays156_ren := {
  sizeBuilder := by kernel_rfl
  liesBuilder := by kernel_rfl
  t5 := Tryz.underlying5
  a5 := Tryz.isAgg5
  z5 := Tryz.sizeOf5
  v5 := Tryz.zeroValue5
  infoByte := by kernel_rfl
  cellsByte := by kernel_rfl
  sizeByte := by kernel_rfl
  neB5 := by decide }
open Go.RowKit in
/-- No element: the empty string; the world is as it was. (Whatever the slice's address and capacity: a nil slice too.) (LAID: no walk: one application.) -/
theorem Tryz.strings_Join_none (a : Option Addr) (c : Nat) (sep : ByteArray) (w : World) :
    Calls Tryz.prog 31 #[.slice a 0 c, .string sep] w fun e w' => e = .returned (.string ⟨#[]⟩) ∧ w' = w := Any.strings_Join_none Tryz.lays156 Tryz.Builder_Extra_156 a c sep w
open Go.RowKit in
/-- strings.Join: "Join concatenates the elements of its first argument to create a single string. The separator string sep is placed between elements in the resulting string.": HOWEVER MANY ELEMENTS. Below the heap's end the world is as it was. (LAID: no walk: one application.) -/
theorem Tryz.strings_Join (bk o c : Nat) (xs : List ByteArray) (sep : ByteArray) (w : World) (hcells : ∀ (j : Nat) x, xs[j]? = some x → w.cell? ⟨bk, o + j, none⟩ = some (.string x)) (hbk : bk < w.heap.size) (hN : xs.length ≤ 140737488355328) (hcap : xs.length ≤ c) (hlen : (Lib.join (xs.map (·.data.toList)) sep.data.toList).length ≤ 140737488355328) :
    Calls Tryz.prog 31 #[.slice (some ⟨bk, o, none⟩) xs.length c, .string sep] w fun e w' => e = .returned (.string ⟨(Lib.join (xs.map (·.data.toList)) sep.data.toList).toArray⟩) ∧ Below w.heap.size w w' := Any.strings_Join Tryz.lays156 Tryz.Builder_Extra_156 bk o c xs sep w hcells hbk hN hcap hlen
def Tryz.lays137_ren : Go.Shelf.Ren := ⟨fun | 137 => 58 | 217 => 67 | 266 => 80 | n => n, fun | 9 => 9 | 5 => 5 | 3 => 3 | n => n, fun | n => n⟩
theorem Tryz.lays137 : Go.Proofs.Lays.n137 Tryz.prog Tryz.lays137_ren := {
  mixed := by kernel_rfl
  f137 := Tryz.func58.trans (congrArg some (by kernel_rfl))
  f217 := Tryz.func67.trans (congrArg some (by kernel_rfl))
  f266 := Tryz.func80.trans (congrArg some (by kernel_rfl))
  t3 := Tryz.underlying3
  a3 := Tryz.isAgg3
  z3 := Tryz.sizeOf3
  v3 := Tryz.zeroValue3
  t5 := Tryz.underlying5
  a5 := Tryz.isAgg5
  z5 := Tryz.sizeOf5
  v5 := Tryz.zeroValue5
  t9 := Tryz.underlying9
  a9 := Tryz.isAgg9
  z9 := Tryz.sizeOf9
  v9 := Tryz.zeroValue9 }
open Go.RowKit in
/-- strings.IndexByte: "IndexByte returns the index of the first instance of c in s, or -1 if c is not present in s.": IT RETURNS 'Lib.indexByte s c'; the world is as it was. (LAID: no walk: one application.) -/
theorem Tryz.strings_IndexByte (s : ByteArray) (c : Int) (w : World) :
    Calls Tryz.prog 58 #[.string s, .int .u8 c] w fun e w' => e = .returned (.int .i64 (Lib.indexByte s.data.toList c.toNat.toUInt8)) ∧ w' = w := Any.strings_IndexByte Tryz.lays137 s c w
def Tryz.laysM173_ren : Go.Shelf.Ren := ⟨fun | 173 => 48 | 246 => 63 | 283 => 74 | 284 => 75 | 285 => 76 | 286 => 77 | 129 => 92 | 317 => 91 | 318 => 93 | 319 => 94 | 320 => 95 | 337 => 104 | 338 => 105 | n => n, fun | 2 => 2 | 3 => 3 | 9 => 9 | 4 => 4 | 171 => 136 | 0 => 0 | 53 => 114 | 37 => 35 | 5 => 5 | 173 => 139 | 212 => 159 | 51 => 147 | 20 => 20 | 213 => 160 | 46 => 98 | 232 => 176 | 233 => 177 | n => n, fun | 17 => 4 | 18 => 7 | 19 => 8 | n => n⟩
theorem Tryz.laysM173 : Go.Proofs.LaysM.n173 Tryz.prog Tryz.laysM173_ren := {
  mixed := by kernel_rfl
  f129 := Tryz.func92.trans (congrArg some (by kernel_rfl))
  f173 := Tryz.func48.trans (congrArg some (by kernel_rfl))
  f246 := Tryz.func63.trans (congrArg some (by kernel_rfl))
  f283 := Tryz.func74.trans (congrArg some (by kernel_rfl))
  f284 := Tryz.func75.trans (congrArg some (by kernel_rfl))
  f285 := Tryz.func76.trans (congrArg some (by kernel_rfl))
  f286 := Tryz.func77.trans (congrArg some (by kernel_rfl))
  f317 := Tryz.func91.trans (congrArg some (by kernel_rfl))
  f318 := Tryz.func93.trans (congrArg some (by kernel_rfl))
  f319 := Tryz.func94.trans (congrArg some (by kernel_rfl))
  f320 := Tryz.func95.trans (congrArg some (by kernel_rfl))
  f337 := Tryz.func104.trans (congrArg some (by kernel_rfl))
  f338 := Tryz.func105.trans (congrArg some (by kernel_rfl))
  t0 := Tryz.underlying0
  a0 := Tryz.isAgg0
  z0 := Tryz.sizeOf0
  v0 := Tryz.zeroValue0
  t2 := Tryz.underlying2
  a2 := Tryz.isAgg2
  z2 := Tryz.sizeOf2
  v2 := Tryz.zeroValue2
  t3 := Tryz.underlying3
  a3 := Tryz.isAgg3
  z3 := Tryz.sizeOf3
  v3 := Tryz.zeroValue3
  t4 := Tryz.underlying4
  a4 := Tryz.isAgg4
  z4 := Tryz.sizeOf4
  v4 := Tryz.zeroValue4
  t5 := Tryz.underlying5
  a5 := Tryz.isAgg5
  z5 := Tryz.sizeOf5
  v5 := Tryz.zeroValue5
  t9 := Tryz.underlying9
  a9 := Tryz.isAgg9
  z9 := Tryz.sizeOf9
  v9 := Tryz.zeroValue9
  t20 := Tryz.underlying20
  a20 := Tryz.isAgg20
  z20 := Tryz.sizeOf20
  v20 := Tryz.zeroValue20
  t37 := Tryz.underlying35
  a37 := Tryz.isAgg35
  z37 := Tryz.sizeOf35
  v37 := Tryz.zeroValue35
  t46 := Tryz.underlying98
  a46 := Tryz.isAgg98
  z46 := Tryz.sizeOf98
  v46 := Tryz.zeroValue98
  t51 := Tryz.underlying147
  a51 := Tryz.isAgg147
  z51 := Tryz.sizeOf147
  v51 := Tryz.zeroValue147
  t53 := Tryz.underlying114
  a53 := Tryz.isAgg114
  z53 := Tryz.sizeOf114
  v53 := Tryz.zeroValue114
  t171 := Tryz.underlying136
  a171 := Tryz.isAgg136
  z171 := Tryz.sizeOf136
  v171 := Tryz.zeroValue136
  t173 := Tryz.underlying139
  a173 := Tryz.isAgg139
  z173 := Tryz.sizeOf139
  v173 := Tryz.zeroValue139
  t212 := Tryz.underlying159
  a212 := Tryz.isAgg159
  z212 := Tryz.sizeOf159
  v212 := Tryz.zeroValue159
  t213 := Tryz.underlying160
  a213 := Tryz.isAgg160
  z213 := Tryz.sizeOf160
  t232 := Tryz.underlying176
  a232 := Tryz.isAgg176
  z232 := Tryz.sizeOf176
  v232 := Tryz.zeroValue176
  t233 := Tryz.underlying177
  a233 := Tryz.isAgg177
  z233 := Tryz.sizeOf177
  v233 := Tryz.zeroValue177
  g17 := by kernel_rfl
  g18 := by kernel_rfl
  g19 := by kernel_rfl
  i0 := by kernel_rfl
  i2 := by kernel_rfl
  i3 := by kernel_rfl
  i4 := by kernel_rfl
  i5 := by kernel_rfl
  i9 := by kernel_rfl
  i20 := by kernel_rfl
  i37 := by kernel_rfl
  i46 := by kernel_rfl
  i51 := by kernel_rfl
  i53 := by kernel_rfl
  i171 := by kernel_rfl
  i173 := by kernel_rfl
  i212 := by kernel_rfl
  i232 := by kernel_rfl
  i233 := by kernel_rfl
  m17 := by kernel_rfl
  m18 := by kernel_rfl
  m19 := by kernel_rfl }
open Go.RowKit Go.Sort Go.Lib in
/-- strconv.FormatInt: "FormatInt returns the string representation of i in the given base": AT BASE 10: i's decimal numeral, for every int64. (LAID: no walk: one application.) -/
theorem Tryz.strconv_FormatInt_10 (n : Int) (h0 : -9223372036854775808 ≤ n) (h1 : n ≤ 9223372036854775807) (w : World) (htab : Lib.TabIs Tryz.prog w "internal/strconv.uint64pow10" .u64 Lib.pow10Tab) :
    Calls Tryz.prog 48 #[.int .i64 n, .int .i64 10] w fun e w' => e = .returned (.string ⟨(Lib.itoa n).toArray⟩) ∧ ∃ k os, w' = grow (w.drewN k) os := Any.strconv_FormatInt_10 Tryz.laysM173 n h0 h1 w htab
def Tryz.laysC174_ren : Go.Shelf.Ren := ⟨fun | 174 => 73 | 247 => 89 | 245 => 90 | 287 => 99 | 279 => 100 | 280 => 101 | 281 => 102 | 282 => 103 | 321 => 108 | 322 => 109 | 316 => 110 | 171 => 112 | 205 => 111 | 243 => 114 | 246 => 63 | 283 => 74 | 284 => 75 | 285 => 76 | 286 => 77 | 129 => 92 | 317 => 91 | 318 => 93 | 319 => 94 | 320 => 95 | 337 => 104 | 338 => 105 | n => n, fun | 9 => 9 | 3 => 3 | 2 => 2 | 75 => 25 | 85 => 133 | 4 => 4 | 167 => 163 | 5 => 5 | 53 => 114 | 175 => 164 | 46 => 98 | 168 => 166 | 37 => 35 | 0 => 0 | 210 => 174 | 21 => 21 | 127 => 129 | 145 => 180 | 143 => 178 | 171 => 136 | 173 => 139 | 212 => 159 | 51 => 147 | 20 => 20 | 213 => 160 | 232 => 176 | 233 => 177 | 80 => 105 | n => n, fun | 15 => 5 | 16 => 6 | 17 => 4 | 18 => 7 | 19 => 8 | n => n⟩
theorem Tryz.laysC174 : Go.Proofs.LaysC.n174 Tryz.prog Tryz.laysC174_ren := {
  mixed := by kernel_rfl
  f129 := Tryz.func92.trans (congrArg some (by kernel_rfl))
  f171 := Tryz.func112.trans (congrArg some (by kernel_rfl))
  f174 := Tryz.func73.trans (congrArg some (by kernel_rfl))
  f205 := Tryz.func111.trans (congrArg some (by kernel_rfl))
  f243 := Tryz.func114.trans (congrArg some (by kernel_rfl))
  f245 := Tryz.func90.trans (congrArg some (by kernel_rfl))
  f246 := Tryz.func63.trans (congrArg some (by kernel_rfl))
  f247 := Tryz.func89.trans (congrArg some (by kernel_rfl))
  f279 := Tryz.func100.trans (congrArg some (by kernel_rfl))
  f280 := Tryz.func101.trans (congrArg some (by kernel_rfl))
  f281 := Tryz.func102.trans (congrArg some (by kernel_rfl))
  f282 := Tryz.func103.trans (congrArg some (by kernel_rfl))
  f283 := Tryz.func74.trans (congrArg some (by kernel_rfl))
  f284 := Tryz.func75.trans (congrArg some (by kernel_rfl))
  f285 := Tryz.func76.trans (congrArg some (by kernel_rfl))
  f286 := Tryz.func77.trans (congrArg some (by kernel_rfl))
  f287 := Tryz.func99.trans (congrArg some (by kernel_rfl))
  f316 := Tryz.func110.trans (congrArg some (by kernel_rfl))
  f317 := Tryz.func91.trans (congrArg some (by kernel_rfl))
  f318 := Tryz.func93.trans (congrArg some (by kernel_rfl))
  f319 := Tryz.func94.trans (congrArg some (by kernel_rfl))
  f320 := Tryz.func95.trans (congrArg some (by kernel_rfl))
  f321 := Tryz.func108.trans (congrArg some (by kernel_rfl))
  f322 := Tryz.func109.trans (congrArg some (by kernel_rfl))
  f337 := Tryz.func104.trans (congrArg some (by kernel_rfl))
  f338 := Tryz.func105.trans (congrArg some (by kernel_rfl))
  t0 := Tryz.underlying0
  a0 := Tryz.isAgg0
  z0 := Tryz.sizeOf0
  v0 := Tryz.zeroValue0
  t2 := Tryz.underlying2
  a2 := Tryz.isAgg2
  z2 := Tryz.sizeOf2
  v2 := Tryz.zeroValue2
  t3 := Tryz.underlying3
  a3 := Tryz.isAgg3
  z3 := Tryz.sizeOf3
  v3 := Tryz.zeroValue3
  t4 := Tryz.underlying4
  a4 := Tryz.isAgg4
  z4 := Tryz.sizeOf4
  v4 := Tryz.zeroValue4
  t5 := Tryz.underlying5
  a5 := Tryz.isAgg5
  z5 := Tryz.sizeOf5
  v5 := Tryz.zeroValue5
  t9 := Tryz.underlying9
  a9 := Tryz.isAgg9
  z9 := Tryz.sizeOf9
  v9 := Tryz.zeroValue9
  t20 := Tryz.underlying20
  a20 := Tryz.isAgg20
  z20 := Tryz.sizeOf20
  v20 := Tryz.zeroValue20
  t21 := Tryz.underlying21
  a21 := Tryz.isAgg21
  z21 := Tryz.sizeOf21
  v21 := Tryz.zeroValue21
  t37 := Tryz.underlying35
  a37 := Tryz.isAgg35
  z37 := Tryz.sizeOf35
  v37 := Tryz.zeroValue35
  t46 := Tryz.underlying98
  a46 := Tryz.isAgg98
  z46 := Tryz.sizeOf98
  v46 := Tryz.zeroValue98
  t51 := Tryz.underlying147
  a51 := Tryz.isAgg147
  z51 := Tryz.sizeOf147
  v51 := Tryz.zeroValue147
  t53 := Tryz.underlying114
  a53 := Tryz.isAgg114
  z53 := Tryz.sizeOf114
  v53 := Tryz.zeroValue114
  t75 := Tryz.underlying25
  a75 := Tryz.isAgg25
  z75 := Tryz.sizeOf25
  v75 := Tryz.zeroValue25
  t85 := Tryz.underlying133
  a85 := Tryz.isAgg133
  z85 := Tryz.sizeOf133
  v85 := Tryz.zeroValue133
  t127 := Tryz.underlying129
  a127 := Tryz.isAgg129
  z127 := Tryz.sizeOf129
  v127 := Tryz.zeroValue129
  t143 := Tryz.underlying178
  a143 := Tryz.isAgg178
  z143 := Tryz.sizeOf178
  v143 := Tryz.zeroValue178
  t145 := Tryz.underlying180
  a145 := Tryz.isAgg180
  z145 := Tryz.sizeOf180
  v145 := Tryz.zeroValue180
  t167 := Tryz.underlying163
  a167 := Tryz.isAgg163
  z167 := Tryz.sizeOf163
  v167 := Tryz.zeroValue163
  t168 := Tryz.underlying166
  a168 := Tryz.isAgg166
  z168 := Tryz.sizeOf166
  v168 := Tryz.zeroValue166
  t171 := Tryz.underlying136
  a171 := Tryz.isAgg136
  z171 := Tryz.sizeOf136
  v171 := Tryz.zeroValue136
  t173 := Tryz.underlying139
  a173 := Tryz.isAgg139
  z173 := Tryz.sizeOf139
  v173 := Tryz.zeroValue139
  t175 := Tryz.underlying164
  a175 := Tryz.isAgg164
  z175 := Tryz.sizeOf164
  v175 := Tryz.zeroValue164
  t210 := Tryz.underlying174
  a210 := Tryz.isAgg174
  z210 := Tryz.sizeOf174
  v210 := Tryz.zeroValue174
  t212 := Tryz.underlying159
  a212 := Tryz.isAgg159
  z212 := Tryz.sizeOf159
  v212 := Tryz.zeroValue159
  t213 := Tryz.underlying160
  a213 := Tryz.isAgg160
  z213 := Tryz.sizeOf160
  t232 := Tryz.underlying176
  a232 := Tryz.isAgg176
  z232 := Tryz.sizeOf176
  v232 := Tryz.zeroValue176
  t233 := Tryz.underlying177
  a233 := Tryz.isAgg177
  z233 := Tryz.sizeOf177
  v233 := Tryz.zeroValue177
  g15 := by kernel_rfl
  g16 := by kernel_rfl
  g17 := by kernel_rfl
  g18 := by kernel_rfl
  g19 := by kernel_rfl
  t80 := Tryz.underlying105
  a80 := Tryz.isAgg105
  z80 := Tryz.sizeOf105
  v80 := Tryz.zeroValue105
  i0 := by kernel_rfl
  i2 := by kernel_rfl
  i3 := by kernel_rfl
  i4 := by kernel_rfl
  i5 := by kernel_rfl
  i9 := by kernel_rfl
  i20 := by kernel_rfl
  i21 := by kernel_rfl
  i37 := by kernel_rfl
  i46 := by kernel_rfl
  i51 := by kernel_rfl
  i53 := by kernel_rfl
  i75 := by kernel_rfl
  i80 := by kernel_rfl
  i85 := by kernel_rfl
  i127 := by kernel_rfl
  i143 := by kernel_rfl
  i145 := by kernel_rfl
  i167 := by kernel_rfl
  i168 := by kernel_rfl
  i171 := by kernel_rfl
  i173 := by kernel_rfl
  i175 := by kernel_rfl
  i210 := by kernel_rfl
  i212 := by kernel_rfl
  i232 := by kernel_rfl
  i233 := by kernel_rfl
  m15 := by kernel_rfl
  m16 := by kernel_rfl
  m17 := by kernel_rfl
  m18 := by kernel_rfl
  m19 := by kernel_rfl
  c0 := by kernel_rfl
  c2 := by kernel_rfl
  c3 := by kernel_rfl
  c4 := by kernel_rfl
  c5 := by kernel_rfl
  c9 := by kernel_rfl
  c20 := by kernel_rfl
  c21 := by kernel_rfl
  c37 := by kernel_rfl
  c46 := by kernel_rfl
  c51 := by kernel_rfl
  c53 := by kernel_rfl
  c75 := by kernel_rfl
  c80 := by kernel_rfl
  c85 := by kernel_rfl
  c127 := by kernel_rfl
  c143 := by kernel_rfl
  c145 := by kernel_rfl
  c167 := by kernel_rfl
  c168 := by kernel_rfl
  c171 := by kernel_rfl
  c173 := by kernel_rfl
  c175 := by kernel_rfl
  c210 := by kernel_rfl
  c212 := by kernel_rfl
  c213 := by kernel_rfl
  c232 := by kernel_rfl
  c233 := by kernel_rfl }
open Go.RowKit in
/-- strconv.ParseInt(s, 10, 64), AT EVERY STRING THAT SPELLS AN int64 ('Lib.parseIntB 64 s.data.toList = .ok v'): v, AND NO ERROR. (LAID: no walk: one application.) -/
theorem Tryz.strconv_ParseInt_10_at64_ok (s : ByteArray) (hmax : s.size ≤ 9223372036854775806) (v : Int) (h : Lib.parseIntB 64 s.data.toList = .ok v) (w : World) :
    Calls Tryz.prog 73 #[.string s, .int .i64 10, .int .i64 64] w fun e w' => e = .returned (.tuple #[.int .i64 v, .nilIface]) ∧ (w' = w ∨ ∃ t, w' = Lib.bytesWorld w 5 t) := Any.strconv_ParseInt_10_at64_ok Tryz.laysC174 s hmax v h w
open Go.RowKit in
theorem Tryz.strconv_ParseInt_10_at64_syntax_var (s : ByteArray) (hlim : s.size ≤ 281474976710656) (h1 : ∀ v, Lib.parseIntB 64 s.data.toList ≠ .ok v) (h2 : Lib.parseIntB 64 s.data.toList ≠ .range) (tp : TypeId) (p : Value) (w : World) (hvar : w.var? Tryz.prog "strconv.ErrSyntax" = some #[.iface tp p]) :
    Calls Tryz.prog 73 #[.string s, .int .i64 10, .int .i64 64] w fun e w' => ∃ N, e = .returned (.tuple #[.int .i64 (0), .iface 166 (.pointer (some ⟨N, 0, none⟩))]) ∧ w.heap.size ≤ N ∧ w'.heap[N]? = some (.cells #[.string ⟨#[80, 97, 114, 115, 101, 73, 110, 116]⟩, .string s, .iface tp p] 174 (0, 0)) ∧ Below w.heap.size w w' := Any.strconv_ParseInt_10_at64_syntax_var Tryz.laysC174 s hlim (by cases hp : Lib.parseIntB 64 s.data.toList with | ok v => exact absurd hp (h1 v) | range => exact absurd hp h2 | _ => rfl) tp p w hvar
open Go.RowKit in
theorem Tryz.strconv_ParseInt_10_at64_range_var (s : ByteArray) (hlim : s.size ≤ 281474976710656) (h : Lib.parseIntB 64 s.data.toList = .range) (tp : TypeId) (p : Value) (w : World) (hvar : w.var? Tryz.prog "strconv.ErrRange" = some #[.iface tp p]) :
    Calls Tryz.prog 73 #[.string s, .int .i64 10, .int .i64 64] w fun e w' => ∃ N, e = .returned (.tuple #[.int .i64 (Lib.intSat 64 s.data.toList), .iface 166 (.pointer (some ⟨N, 0, none⟩))]) ∧ w.heap.size ≤ N ∧ w'.heap[N]? = some (.cells #[.string ⟨#[80, 97, 114, 115, 101, 73, 110, 116]⟩, .string s, .iface tp p] 174 (0, 0)) ∧ Below w.heap.size w w' := Any.strconv_ParseInt_10_at64_range_var Tryz.laysC174 s hlim h tp p w hvar
def Tryz.lays219_ren : Go.Shelf.Ren := ⟨fun | 219 => 55 | 217 => 67 | 225 => 68 | 224 => 69 | 267 => 70 | 266 => 80 | 314 => 81 | n => n, fun | 9 => 9 | 3 => 3 | 4 => 4 | 5 => 5 | 46 => 98 | 146 => 148 | 51 => 147 | n => n, fun | 1 => 1 | n => n⟩
theorem Tryz.lays219 : Go.Proofs.Lays.n219 Tryz.prog Tryz.lays219_ren := {
  mixed := by kernel_rfl
  f217 := Tryz.func67.trans (congrArg some (by kernel_rfl))
  f219 := Tryz.func55.trans (congrArg some (by kernel_rfl))
  f224 := Tryz.func69.trans (congrArg some (by kernel_rfl))
  f225 := Tryz.func68.trans (congrArg some (by kernel_rfl))
  f266 := Tryz.func80.trans (congrArg some (by kernel_rfl))
  f267 := Tryz.func70.trans (congrArg some (by kernel_rfl))
  f314 := Tryz.func81.trans (congrArg some (by kernel_rfl))
  t3 := Tryz.underlying3
  a3 := Tryz.isAgg3
  z3 := Tryz.sizeOf3
  v3 := Tryz.zeroValue3
  t4 := Tryz.underlying4
  a4 := Tryz.isAgg4
  z4 := Tryz.sizeOf4
  v4 := Tryz.zeroValue4
  t5 := Tryz.underlying5
  a5 := Tryz.isAgg5
  z5 := Tryz.sizeOf5
  v5 := Tryz.zeroValue5
  t9 := Tryz.underlying9
  a9 := Tryz.isAgg9
  z9 := Tryz.sizeOf9
  v9 := Tryz.zeroValue9
  t46 := Tryz.underlying98
  a46 := Tryz.isAgg98
  z46 := Tryz.sizeOf98
  v46 := Tryz.zeroValue98
  t51 := Tryz.underlying147
  a51 := Tryz.isAgg147
  z51 := Tryz.sizeOf147
  v51 := Tryz.zeroValue147
  t146 := Tryz.underlying148
  a146 := Tryz.isAgg148
  z146 := Tryz.sizeOf148
  v146 := Tryz.zeroValue148
  g1 := by kernel_rfl }
open Go.RowKit Go.Lib in
/-- internal/stringslite.Index (what strings.Index calls) AT A substr OF ONE BYTE c: IT RETURNS 'Lib.indexByte s c'; the world is as it was. (LAID: no walk: one application.) -/
theorem Tryz.stringslite_Index_one (s : ByteArray) (c : UInt8) (w : World) :
    Calls Tryz.prog 55 #[.string s, .string ⟨#[c]⟩] w fun e w' => e = .returned (.int .i64 (Lib.indexByte s.data.toList c)) ∧ w' = w := Any.stringslite_Index_one Tryz.lays219 s c w
def Tryz.lays143_ren : Go.Shelf.Ren := ⟨fun | 143 => 54 | 219 => 55 | 217 => 67 | 225 => 68 | 224 => 69 | 267 => 70 | 266 => 80 | 314 => 81 | n => n, fun | 9 => 9 | 3 => 3 | 4 => 4 | 5 => 5 | 46 => 98 | 146 => 148 | 51 => 147 | n => n, fun | 1 => 1 | n => n⟩
theorem Tryz.lays143 : Go.Proofs.Lays.n143 Tryz.prog Tryz.lays143_ren := {
  mixed := by kernel_rfl
  f143 := Tryz.func54.trans (congrArg some (by kernel_rfl))
  f217 := Tryz.func67.trans (congrArg some (by kernel_rfl))
  f219 := Tryz.func55.trans (congrArg some (by kernel_rfl))
  f224 := Tryz.func69.trans (congrArg some (by kernel_rfl))
  f225 := Tryz.func68.trans (congrArg some (by kernel_rfl))
  f266 := Tryz.func80.trans (congrArg some (by kernel_rfl))
  f267 := Tryz.func70.trans (congrArg some (by kernel_rfl))
  f314 := Tryz.func81.trans (congrArg some (by kernel_rfl))
  t3 := Tryz.underlying3
  a3 := Tryz.isAgg3
  z3 := Tryz.sizeOf3
  v3 := Tryz.zeroValue3
  t4 := Tryz.underlying4
  a4 := Tryz.isAgg4
  z4 := Tryz.sizeOf4
  v4 := Tryz.zeroValue4
  t5 := Tryz.underlying5
  a5 := Tryz.isAgg5
  z5 := Tryz.sizeOf5
  v5 := Tryz.zeroValue5
  t9 := Tryz.underlying9
  a9 := Tryz.isAgg9
  z9 := Tryz.sizeOf9
  v9 := Tryz.zeroValue9
  t46 := Tryz.underlying98
  a46 := Tryz.isAgg98
  z46 := Tryz.sizeOf98
  v46 := Tryz.zeroValue98
  t51 := Tryz.underlying147
  a51 := Tryz.isAgg147
  z51 := Tryz.sizeOf147
  v51 := Tryz.zeroValue147
  t146 := Tryz.underlying148
  a146 := Tryz.isAgg148
  z146 := Tryz.sizeOf148
  v146 := Tryz.zeroValue148
  g1 := by kernel_rfl }
open Go.RowKit Go.Lib in
/-- strings.Index: "Index returns the index of the first instance of substr in s, or -1 if substr is not present in s.": AT A substr OF ONE BYTE c: IT RETURNS 'Lib.indexByte s c'; the world is as it was. (LAID: no walk: one application.) -/
theorem Tryz.strings_Index_one (s : ByteArray) (c : UInt8) (w : World) :
    Calls Tryz.prog 54 #[.string s, .string ⟨#[c]⟩] w fun e w' => e = .returned (.int .i64 (Lib.indexByte s.data.toList c)) ∧ w' = w := Any.strings_Index_one Tryz.lays143 s c w
def Tryz.lays229_ren : Go.Shelf.Ren := ⟨fun | 229 => 20 | n => n, fun | 9 => 9 | 40 => 54 | 31 => 33 | 152 => 69 | 3 => 3 | 0 => 0 | 4 => 4 | 21 => 21 | 154 => 71 | n => n, fun | n => n⟩
theorem Tryz.lays229 : Go.Proofs.Lays.n229 Tryz.prog Tryz.lays229_ren := {
  mixed := by kernel_rfl
  f229 := Tryz.func20.trans (congrArg some (by kernel_rfl))
  t0 := Tryz.underlying0
  a0 := Tryz.isAgg0
  z0 := Tryz.sizeOf0
  v0 := Tryz.zeroValue0
  t3 := Tryz.underlying3
  a3 := Tryz.isAgg3
  z3 := Tryz.sizeOf3
  v3 := Tryz.zeroValue3
  t4 := Tryz.underlying4
  a4 := Tryz.isAgg4
  z4 := Tryz.sizeOf4
  v4 := Tryz.zeroValue4
  t9 := Tryz.underlying9
  a9 := Tryz.isAgg9
  z9 := Tryz.sizeOf9
  v9 := Tryz.zeroValue9
  t21 := Tryz.underlying21
  a21 := Tryz.isAgg21
  z21 := Tryz.sizeOf21
  v21 := Tryz.zeroValue21
  t31 := Tryz.underlying33
  a31 := Tryz.isAgg33
  z31 := Tryz.sizeOf33
  v31 := Tryz.zeroValue33
  t40 := Tryz.underlying54
  a40 := Tryz.isAgg54
  z40 := Tryz.sizeOf54
  v40 := Tryz.zeroValue54
  t152 := Tryz.underlying69
  a152 := Tryz.isAgg69
  z152 := Tryz.sizeOf69
  v152 := Tryz.zeroValue69
  t154 := Tryz.underlying71
  a154 := Tryz.isAgg71
  z154 := Tryz.sizeOf71
  v154 := Tryz.zeroValue71 }
open Go.RowKit Go.Lib in
theorem Tryz.strings_FieldsFunc_runes (g : Nat) (lb : Array Value) (eg : ∀ args w, (callFunc g args).run Tryz.prog w = .ok (.enter g args) w) (p : Nat → Bool) (s : ByteArray) (w : World) (hs : s.size ≤ 4294967296) (hp : PredAtRunes Tryz.prog g lb p w) :
    Calls Tryz.prog 20 #[.string s, .func (.func g) #[] lb] w fun e w' => ∃ A, e = .returned (.slice (some ⟨A, 0, none⟩) (Lib.goFieldsP p s).length (Lib.goFieldsP p s).length) ∧ w.heap.size ≤ A ∧
      w'.ownsRow w.heap.size 9 1 (.slice (some ⟨A, 0, none⟩) (Lib.goFieldsP p s).length (Lib.goFieldsP p s).length) (Lib.goFieldsP p s).length ((Lib.goFieldsP p s).map Value.string) ∧ Below w.heap.size w w' := Any.strings_FieldsFunc_runes Tryz.lays229 g lb eg p s w hs hp (by kernel_rfl) (by kernel_rfl)
def Tryz.laysTrim160_ren : Go.Shelf.Ren := ⟨fun | 160 => 71 | 232 => 83 | 231 => 82 | 227 => 84 | 234 => 86 | 233 => 85 | 236 => 88 | 235 => 87 | 228 => 96 | 271 => 98 | 151 => 97 | 197 => 53 | 120 => 107 | 152 => 106 | 260 => 66 | 137 => 58 | 119 => 113 | 224 => 69 | 225 => 68 | 217 => 67 | 266 => 80 | n => n, fun | 9 => 9 | 4 => 4 | 3 => 3 | 5 => 5 | 117 => 153 | 116 => 152 | 0 => 0 | 124 => 156 | 21 => 21 | 105 => 106 | 46 => 98 | 119 => 143 | 139 => 146 | 138 => 145 | n => n, fun | 3 => 2 | 4 => 3 | n => n⟩
theorem Tryz.laysTrim160 : Go.Proofs.Lays.n160 Tryz.prog Tryz.laysTrim160_ren := {
  mixed := by kernel_rfl
  f119 := Tryz.func113.trans (congrArg some (by kernel_rfl))
  f120 := Tryz.func107.trans (congrArg some (by kernel_rfl))
  f137 := Tryz.func58.trans (congrArg some (by kernel_rfl))
  f151 := Tryz.func97.trans (congrArg some (by kernel_rfl))
  f152 := Tryz.func106.trans (congrArg some (by kernel_rfl))
  f160 := Tryz.func71.trans (congrArg some (by kernel_rfl))
  f197 := Tryz.func53.trans (congrArg some (by kernel_rfl))
  f217 := Tryz.func67.trans (congrArg some (by kernel_rfl))
  f224 := Tryz.func69.trans (congrArg some (by kernel_rfl))
  f225 := Tryz.func68.trans (congrArg some (by kernel_rfl))
  f227 := Tryz.func84.trans (congrArg some (by kernel_rfl))
  f228 := Tryz.func96.trans (congrArg some (by kernel_rfl))
  f231 := Tryz.func82.trans (congrArg some (by kernel_rfl))
  f232 := Tryz.func83.trans (congrArg some (by kernel_rfl))
  f233 := Tryz.func85.trans (congrArg some (by kernel_rfl))
  f234 := Tryz.func86.trans (congrArg some (by kernel_rfl))
  f235 := Tryz.func87.trans (congrArg some (by kernel_rfl))
  f236 := Tryz.func88.trans (congrArg some (by kernel_rfl))
  f260 := Tryz.func66.trans (congrArg some (by kernel_rfl))
  f266 := Tryz.func80.trans (congrArg some (by kernel_rfl))
  f271 := Tryz.func98.trans (congrArg some (by kernel_rfl))
  t0 := Tryz.underlying0
  a0 := Tryz.isAgg0
  z0 := Tryz.sizeOf0
  v0 := Tryz.zeroValue0
  t3 := Tryz.underlying3
  a3 := Tryz.isAgg3
  z3 := Tryz.sizeOf3
  v3 := Tryz.zeroValue3
  t4 := Tryz.underlying4
  a4 := Tryz.isAgg4
  z4 := Tryz.sizeOf4
  v4 := Tryz.zeroValue4
  t5 := Tryz.underlying5
  a5 := Tryz.isAgg5
  z5 := Tryz.sizeOf5
  v5 := Tryz.zeroValue5
  t9 := Tryz.underlying9
  a9 := Tryz.isAgg9
  z9 := Tryz.sizeOf9
  v9 := Tryz.zeroValue9
  t21 := Tryz.underlying21
  a21 := Tryz.isAgg21
  z21 := Tryz.sizeOf21
  v21 := Tryz.zeroValue21
  t46 := Tryz.underlying98
  a46 := Tryz.isAgg98
  z46 := Tryz.sizeOf98
  v46 := Tryz.zeroValue98
  t105 := Tryz.underlying106
  a105 := Tryz.isAgg106
  z105 := Tryz.sizeOf106
  v105 := Tryz.zeroValue106
  t116 := Tryz.underlying152
  a116 := Tryz.isAgg152
  z116 := Tryz.sizeOf152
  t117 := Tryz.underlying153
  a117 := Tryz.isAgg153
  z117 := Tryz.sizeOf153
  v117 := Tryz.zeroValue153
  t119 := Tryz.underlying143
  a119 := Tryz.isAgg143
  z119 := Tryz.sizeOf143
  t124 := Tryz.underlying156
  a124 := Tryz.isAgg156
  z124 := Tryz.sizeOf156
  v124 := Tryz.zeroValue156
  t138 := Tryz.underlying145
  a138 := Tryz.isAgg145
  z138 := Tryz.sizeOf145
  v138 := Tryz.zeroValue145
  t139 := Tryz.underlying146
  a139 := Tryz.isAgg146
  z139 := Tryz.sizeOf146
  v139 := Tryz.zeroValue146
  g3 := by kernel_rfl
  g4 := by kernel_rfl }
end Go.Proofs

/- The walks of script.named and script.blank's use: a name is a word of 1 to 16 small letters. -/
namespace Go.Proofs.YtfiacgkhkonilaaGreatDoor
open Go Go.RowKit Go.Shelf Go.Proofs.YtfiacgkhkonilaaGreatDoorW.PrintWords

theorem trim_az (s : ByteArray) (w : World) (hs : s.size ≤ 9223372036854775807) :
    Calls Tryz.prog 71 #[.string s, .string ⟨#[97, 98, 99, 100, 101, 102, 103, 104, 105, 106, 107, 108, 109, 110, 111, 112, 113, 114, 115, 116, 117, 118, 119, 120, 121, 122]⟩] w fun e w' => e = .returned (.string (mk (Lib.trimS s.data.toList az))) ∧ Below w.heap.size w w' :=
  Any.strings_Trim_laid Tryz.laysTrim160 (by kernel_rfl) s _ w hs (by decide) (ascii_of_all (by decide))

theorem ret_bool {a b : Bool} (h : a = b) : Ending.returned (.bool a) = .returned (.bool b) := by rw [h]

set_option maxRecDepth 100000 in
theorem named_any (s : ByteArray) (w : World) (hs : s.size ≤ 140737488351232) :
    Calls Tryz.prog 56 #[.string s] w fun e w' => e = .returned (.bool (isName s.data.toList)) ∧ Below w.heap.size w w' := by
  have hl := Lib.size_eq s
  have ht := trim_az s w (by omega)
  have HT := Lib.hid ht
  have HL := Lib.hid hl
  clear ht hl
  by_cases h1 : 1 ≤ s.size
  · by_cases h2 : s.size ≤ 16
    · have e1 : (1 : Int) ≤ (s.size : Int) := by omega
      have e2 : (s.size : Int) ≤ 16 := by omega
      go_enter Tryz.func56, Tryz.ntmps56
      go_wp2_with (go_at_call 71; refine HT.out.mono ?_; rintro e w1 ⟨rfl, hb⟩)
      go_ret
      exact ⟨ret_bool (by rw [isName, ← HL.out, decide_eq_true h1, decide_eq_true h2, Lib.toList_data, mk_data]; cases hh : Lib.trimS s.data.toList az with | nil => simp [(trim_nil _).1 hh] | cons a l => have := mt (trim_nil s.data.toList).2 (by rw [hh]; simp); simp only [Bool.not_eq_true] at this; simp [this]), hb⟩
    · have e1 : (1 : Int) ≤ (s.size : Int) := by omega
      have e2 : ¬ (s.size : Int) ≤ 16 := by omega
      go_enter Tryz.func56, Tryz.ntmps56
      go_wp2
      go_ret
      exact ⟨ret_bool (by rw [isName, ← HL.out, decide_eq_false h2]; simp), Below.refl _ _⟩
  · have e1 : ¬ (1 : Int) ≤ (s.size : Int) := by omega
    go_enter Tryz.func56, Tryz.ntmps56
    go_wp2
    go_ret
    exact ⟨ret_bool (by rw [isName, ← HL.out, decide_eq_false h1]; simp), Below.refl _ _⟩
end Go.Proofs.YtfiacgkhkonilaaGreatDoor

/- What the walks ask of the library's own variables; that it stays; script.number; numbers and text of the library. -/
namespace Go.Proofs.YtfiacgkhkonilaaGreatDoor
open Go Go.RowKit Go.Shelf Go.Proofs.YtfiacgkhkonilaaGreatDoorW.PrintWords

structure Env (w : World) : Prop where
  size : 9 ≤ w.heap.size
  pow : Lib.TabIs Tryz.prog w "internal/strconv.uint64pow10" .u64 Lib.pow10Tab
  syn : ∃ tp p, w.var? Tryz.prog "strconv.ErrSyntax" = some #[.iface tp p]
  rng : ∃ tp p, w.var? Tryz.prog "strconv.ErrRange" = some #[.iface tp p]
  typ : w.cell? ⟨0, 0, none⟩ = some (.iface 116 (.agg #[.pointer (some ⟨9, 25, none⟩)]))
theorem g4 : Tryz.prog.globalNamed "internal/strconv.uint64pow10" = some 4 := by kernel_rfl
theorem g5 : Tryz.prog.globalNamed "strconv.ErrSyntax" = some 5 := by kernel_rfl
theorem g6 : Tryz.prog.globalNamed "strconv.ErrRange" = some 6 := by kernel_rfl
theorem Env.below {w w1 : World} (h : Env w) (hb : Below w.heap.size w w1) : Env w1 where
  size := Nat.le_trans h.size hb.size
  pow := var?_below hb g4 (by have := h.size; omega) h.pow
  syn := by obtain ⟨tp, p, e⟩ := h.syn; exact ⟨tp, p, var?_below hb g5 (by have := h.size; omega) e⟩
  rng := by obtain ⟨tp, p, e⟩ := h.rng; exact ⟨tp, p, var?_below hb g6 (by have := h.size; omega) e⟩
  typ := (hb.cell (p := ⟨0, 0, none⟩) (by have := h.size; show 0 < w.heap.size; omega)).trans h.typ

theorem format_any (n : Int) (h0 : -9223372036854775808 ≤ n) (h1 : n ≤ 9223372036854775807) (w : World) (he : Env w) :
    Calls Tryz.prog 48 #[.int .i64 n, .int .i64 10] w fun e w' => e = .returned (.string (mk (Lib.itoa n))) ∧ Below w.heap.size w w' :=
  (Tryz.strconv_FormatInt_10 n h0 h1 w he.pow).mono fun e w' ⟨h, k, os, hw⟩ => ⟨h, by rw [hw]; exact Lib.below_grow _ _ (Nat.le_refl _) k os⟩
theorem parse_ok (s : ByteArray) (hs : s.size ≤ 140737488351232) (v : Int) (h : Lib.parseIntB 64 s.data.toList = .ok v) (w : World) :
    Calls Tryz.prog 73 #[.string s, .int .i64 10, .int .i64 64] w fun e w' => e = .returned (.tuple #[.int .i64 v, .nilIface]) ∧ Below w.heap.size w w' :=
  (Tryz.strconv_ParseInt_10_at64_ok s (by omega) v h w).mono fun e w' ⟨h, hw⟩ => ⟨h, by
    rcases hw with rfl | ⟨t, rfl⟩
    · exact Below.refl _ _
    · exact bytes_below (Below.refl _ _) (Nat.le_refl _) _ _⟩
theorem parse_no (s : ByteArray) (hs : s.size ≤ 140737488351232) (h : ∀ v, Lib.parseIntB 64 s.data.toList ≠ .ok v) (w : World) (he : Env w) :
    Calls Tryz.prog 73 #[.string s, .int .i64 10, .int .i64 64] w fun e w' => (∃ x p, e = .returned (.tuple #[.int .i64 x, .iface 166 p])) ∧ Below w.heap.size w w' := by
  by_cases hr : Lib.parseIntB 64 s.data.toList = .range
  · obtain ⟨tp, p, hv⟩ := he.rng
    exact (Tryz.strconv_ParseInt_10_at64_range_var s (by omega) hr tp p w hv).mono fun e w' ⟨N, h, _, _, hb⟩ => ⟨⟨_, _, h⟩, hb⟩
  · obtain ⟨tp, p, hv⟩ := he.syn
    exact (Tryz.strconv_ParseInt_10_at64_syntax_var s (by omega) h hr tp p w hv).mono fun e w' ⟨N, h, _, _, hb⟩ => ⟨⟨_, _, h⟩, hb⟩

end Go.Proofs.YtfiacgkhkonilaaGreatDoor

/- What the rows' lists give the walks; a world that meets the lists. -/
namespace Go.Proofs.YtfiacgkhkonilaaGreatDoor
open Go.ChangeShapes Go.WideShapes Go.ChangeAt Go.RowKit

def laid7 : List (String × DataW Unit) := [("math/bits.deBruijn32tab", Rows.laid_math_bits_deBruijn32tab), ("math/bits.deBruijn64tab", Rows.laid_math_bits_deBruijn64tab), ("internal/strconv.uint64pow10", Rows.laid_internal_strconv_uint64pow10), ("unicode/utf8.acceptRanges", Rows.laid_unicode_utf8_acceptRanges), ("strconv.ErrRange", Rows.laid_strconv_ErrRange), ("strconv.ErrSyntax", Rows.laid_strconv_ErrSyntax), ("unicode/utf8.first", Rows.laid_unicode_utf8_first)]
def laid8 : List (String × DataW Unit) := Rows.scriptReadsRow.laid
theorem own : ownKnob Tryz.prog.godebug = none := by kernel_rfl
theorem gt0 : Tryz.prog.globalNamed "errors.errorType" = some 0 := by kernel_rfl
theorem gt4 : (Tryz.prog.globals[4]?).map (·.type) = some 159 := by kernel_rfl
theorem gt5 : (Tryz.prog.globals[5]?).map (·.type) = some 25 := by kernel_rfl
theorem gt6 : (Tryz.prog.globals[6]?).map (·.type) = some 25 := by kernel_rfl
theorem gt8 : Tryz.prog.globalNamed "math/bits.deBruijn64tab" = some 8 := by kernel_rfl
theorem rtType : (Tryz.prog.cutTypes.find? (·.1 == "internal/reflectlite.rtype")).map (·.2) = some 116 := by kernel_rfl
theorem oneRow : ((List.range Tryz.prog.types.size).filter fun t => Tryz.prog.rowNamed t [101, 114, 114, 111, 114]) = [25] := by kernel_rfl
theorem powData : (Rows.laid_internal_strconv_uint64pow10 : DataW Unit) = Lib.tabData .u64 Lib.pow10Tab := by kernel_rfl

theorem tab_of_reads {P : Program} {W : World} {name : String} {k : IntKind} {zs : List Int} {g : Nat} {t e : TypeId} {n : Nat}
    (hg : P.globalNamed name = some g) (hty : (P.globals[g]?).map (·.type) = some t) (ht : P.underlying t = some (.array n e)) (he : P.underlying e = some (.int k)) (hce : P.cellsOf e = 1) (hct : P.cellsOf t = n)
    (h : Lib.VarReads P W name (Lib.tabData k zs)) : Lib.TabIs P W name k zs := by
  obtain ⟨g', t', cs, fuel, p, hg', ht', hvar, hd⟩ := h
  obtain rfl := Option.some.inj (hg.symm.trans hg')
  obtain rfl := Option.some.inj (hty.symm.trans ht')
  unfold Lib.TabIs
  rw [hvar, ← Lib.cells_of_tab ht he hce hct hd]
theorem iface_of_reads {P : Program} {W : World} {name nm : String} {d : DataW Unit} {g : Nat} {t : TypeId} {ms : Array (String × TypeId)}
    (hg : P.globalNamed name = some g) (hty : (P.globals[g]?).map (·.type) = some t) (ht : P.underlying t = some (.interface ms)) (h : Lib.VarReads P W name (.iface nm d)) : ∃ tp p, W.var? P name = some #[.iface tp p] := by
  obtain ⟨g', t', cs, fuel, p, hg', ht', hvar, hd⟩ := h
  obtain rfl := Option.some.inj (hg.symm.trans hg')
  obtain rfl := Option.some.inj (hty.symm.trans ht')
  obtain ⟨_, u, v, hc, _⟩ := iface_of_trod ht hd
  exact ⟨u, v, by rw [hvar, Array.eq_one_of_toList hc]⟩
theorem size_of_reads {P : Program} {W : World} {name : String} {d : DataW Unit} {g : Nat} (hg : P.globalNamed name = some g) (h : Lib.VarReads P W name d) : g < W.heap.size := by
  obtain ⟨g', t', cs, fuel, p, hg', ht', hvar, hd⟩ := h
  unfold World.var? at hvar
  rw [hg] at hvar
  simp only [Option.bind_some] at hvar
  rcases Nat.lt_or_ge g W.heap.size with h' | h'
  · exact h'
  · simp [Array.getElem?_eq_none h'] at hvar

theorem handle_of {W : World} (h : handlesMet Tryz.prog [("errors.errorType", Rows.laid_errors_errorType)] W) : W.cell? ⟨0, 0, none⟩ = some (.iface 116 (.agg #[.pointer (some ⟨9, 25, none⟩)])) := by
  obtain ⟨name, u, ty, e1, e2, e3, e4, e5⟩ := h _ (List.mem_singleton.2 rfl)
  have en : name = [101, 114, 114, 111, 114] := (Option.some.inj e1).symm
  subst en
  obtain rfl := Option.some.inj (rtType.symm.trans e2)
  have hm : ty ∈ (List.range Tryz.prog.types.size).filter fun t => Tryz.prog.rowNamed t [101, 114, 114, 111, 114] := List.mem_filter.2 ⟨List.mem_range.2 e3, e4⟩
  rw [oneRow] at hm
  obtain rfl := List.mem_singleton.1 hm
  have hh : typeHandle Tryz.prog 25 = .pointer (some ⟨9, 25, none⟩) := by kernel_rfl
  rw [hh] at e5
  simpa using World.var?_cell gt0 e5 0

theorem env_of_laid {W : World} (h : laidMetH Tryz.prog laid8 W) : Env W := by
  have h' : laidMet Tryz.prog laid7 W ∧ handlesMet Tryz.prog [("errors.errorType", Rows.laid_errors_errorType)] W := h
  refine ⟨?_, ?_, ?_, ?_, handle_of h'.2⟩
  · exact size_of_reads gt8 (Lib.laidMet.reads h'.1 (.tail _ (.head _)))
  · exact tab_of_reads g4 gt4 Tryz.underlying159 Tryz.underlying114 (by kernel_rfl) (by kernel_rfl) (powData ▸ Lib.laidMet.reads h'.1 (.tail _ (.tail _ (.head _))))
  · exact iface_of_reads g5 gt5 Tryz.underlying25 (Lib.laidMet.reads h'.1 (.tail _ (.tail _ (.tail _ (.tail _ (.tail _ (.head _)))))))
  · exact iface_of_reads g6 gt6 Tryz.underlying25 (Lib.laidMet.reads h'.1 (.tail _ (.tail _ (.tail _ (.tail _ (.head _))))))

/-- A world that meets the lists: the settled one, the handle's cell set, the other variables laid. -/
noncomputable def handleWorld (os : Os) : World :=
  { World.holding Tryz.prog os ⟨#[], #[], []⟩ with heap := (World.holding Tryz.prog os ⟨#[], #[], []⟩).heap.modify 0 fun
      | .cells _ t frozen => .cells #[.iface 116 (.agg #[.pointer (some ⟨9, 25, none⟩)])] t frozen
      | o => o }
noncomputable def laidWorld (os : Os) : World := (handleWorld os).layVars Tryz.prog laid7
theorem laidWorld_os (os : Os) : (laidWorld os).os = os := World.layVars_os _ _ _
theorem laid7_met (os : Os) : laidMet Tryz.prog laid7 (laidWorld os) := by
  have e1 : (laid7.filter fun x => (laid7.map (·.1)).contains x.1) = laid7 := List.filter_eq_self.2 fun x hx => List.contains_iff_mem.2 (List.mem_map.2 ⟨x, hx, rfl⟩)
  have e2 : (laid7.filter fun x => !(laid7.map (·.1)).contains x.1) = [] := List.filter_eq_nil_iff.2 fun x hx => by rw [List.contains_iff_mem.2 (List.mem_map.2 ⟨x, hx, rfl⟩)]; simp
  exact laidMet_layVars (w0 := handleWorld os) (laid7.map (·.1)) [] (by rw [e1]; rfl) (by rw [e1]; kernel_rfl) (by rw [e1]; kernel_rfl) (by rw [e2]; exact LaidIn.none)
theorem laidWorld_met (os : Os) (args : Array Value) : laidMetH Tryz.prog laid8 ((laidWorld os).forCall (fun _ _ => 0) ⟨#[], args, []⟩).memory := by
  have h : laidMetH Tryz.prog laid8 (laidWorld os) := laidMetH_of_parts (laid7_met os) (by kernel_rfl)
  exact h.of_heap (by simp [World.memory, World.forCall, Input.heap])
end Go.Proofs.YtfiacgkhkonilaaGreatDoor

/- A range over a function whose iterator keeps a captured variable in a cell of its own: the contract of such an iterator (SeqC), and the law of the statement over it; no program in sight. -/
namespace Go.Proofs.YtfiacgkhkonilaaGreatDoor
open Go Go.RowKit

/-- The iterator goes over just xs; it writes cells of block Bs alone; a round that goes on keeps Kp. -/
def SeqC {α : Type} (F : Fence) (n : Nat) (P : Program) (g : Nat) (lb : Array Value) (encs : α → Array Value) (Bs : Nat) (Kp : World → World → Prop) (xs : List α) (w : World) : Prop :=
  ∀ (l : Nat) (J Jx : List α → World → Prop) (W : World), Below w.heap.size w W →
    (∀ s A B, J s A → A.grownBy B (some Bs) → J s B) → (∀ s A B, Jx s A → A.grownBy B (some Bs) → Jx s B) →
    (∀ pre x post W1, J pre W1 → xs = pre ++ x :: post → YieldAt F (n - 1) P l (encs x) W1 fun e W' =>
      (e = .returned (.bool true) ∧ J (pre ++ [x]) W' ∧ Kp W1 W') ∨ (e = .returned (.bool false) ∧ Jx (pre ++ [x]) W')) →
    J [] W →
    CallsIn F n P g (#[.func (.yield l) #[] #[]] ++ lb) W fun e W' => (∃ v, e = .returned v) ∧ (J xs W' ∨ (∃ pre, pre <+: xs ∧ Jx pre W'))

variable {F : Fence} {n : Nat} {P : Program}

theorem wpIn_rangeFunc_C {α : Type} {g : Operand} {ps : Array Tmp} {assign body : Code} {Q : Exit → Act → World → Prop} {a : Act} {w : World}
    (hro : F.round = none) (h1 : 1 ≤ n) {gf : Nat} {lb : Array Value} (hg : a.eval g = .func (.func gf) #[] lb) (hFg : F.fn gf) (eg : ∀ args w, (callFunc gf args).run P w = .ok (.enter gf args) w)
    {encs : α → Array Value} {Bs : Nat} {Kp : World → World → Prop} {xs : List α} (hseq : SeqC F (n - 1) P gf lb encs Bs Kp xs w) (hBs : Bs < w.heap.size)
    (hKt : ∀ {A B C : World}, Kp A B → Kp B C → Kp A C) (hKb : ∀ (W : World) (l : Nat) (o : Obj), w.heap.size ≤ l → Kp W (W.putObj l o)) (hps : ∀ x, (encs x).size = ps.size)
    (I : List α → World → Prop) (Ix : Code → List α → World → Prop) (hI : OwnFrom w.heap.size I) (hIx : ∀ c, OwnFrom w.heap.size (Ix c))
    (hIB : ∀ s A B, I s A → A.grownBy B (some Bs) → I s B) (hIxB : ∀ c s A B, Ix c s A → A.grownBy B (some Bs) → Ix c s B) (h0 : I [] w) (a₁ : α → Act)
    (hassign : ∀ (l : Nat) (x : α) (W : World) (K : Act → World → Prop), K (a₁ x) W →
      assign.wpIn (F.inRound l) (n - 1 - 1) P (Exit.then K (fun _ _ _ => False)) { tmps := (ps.zip (encs x)).foldl (fun t (p, v) => t.setIfInBounds p v) a.tmps, defers := [] } W)
    (hbody : ∀ (l : Nat) (pre : List α) (x : α) (post : List α) (W : World), I pre W → xs = pre ++ x :: post → body.wpIn (F.inRound l) (n - 1 - 1) P (ownPostK Kp I Ix (pre ++ [x]) W) (a₁ x) W)
    (hdone : ∀ (D : Nat) (W : World), w.heap.size ≤ D → I xs W → W.heap[D]? = some (.deferred (some [])) → Q .normal { a with defers := { target := .collected D, args := #[] } :: a.defers } W)
    (hstop : ∀ (D : Nat) (c : Code) (pre : List α) (W : World), w.heap.size ≤ D → pre <+: xs → Ix c pre W → W.heap[D]? = some (.deferred (some [])) → c.wpIn F n P Q { a with defers := { target := .collected D, args := #[] } :: a.defers } W) :
    (Code.rangeFunc g ps assign body).wpIn F n P Q a w := by
  refine wpIn_rangeFunc ?_
  intro fn hfn
  rw [hro]
  obtain ⟨rec, hrec⟩ : ∃ rec : LoopState → Option Code → Loop, rec = fun st pe => { state := st, pending := pe, fn, tmps := a.tmps, params := ps, assign, body, defers := w.heap.size } := ⟨_, rfl⟩
  obtain ⟨W1, hW1⟩ : ∃ W1, (w.alloc (.deferred (some []))).alloc (.loop (rec .ready none)) = W1 := ⟨_, rfl⟩
  have hL1 : W1.heap[w.heap.size + 1]? = some (.loop (rec .ready none)) := by
    rw [← hW1]; have := World.alloc_heap_new (w.alloc (.deferred (some []))) (.loop (rec .ready none)); rwa [World.size_alloc] at this
  have hK1 : W1.heap[w.heap.size]? = some (.deferred (some [])) := by
    rw [← hW1]; exact (Below.heap_alloc _ _ _ (by simp)).trans (World.alloc_heap_new w _)
  have hI1 : I [] W1 := by rw [← hW1]; exact hI.alloc _ (hI.alloc _ h0)
  have hb1 : Below w.heap.size w W1 := by
    rw [← hW1]; exact ((Below.refl _ w).alloc (Nat.le_refl _) _).alloc (by simp) _
  have keep : ∀ {A B : World} {k : Nat} {o : Obj}, A.grownBy B (some Bs) → w.heap.size ≤ k → A.heap[k]? = some o → B.heap[k]? = some o := fun hg hk h =>
    (hg.block _ (Array.getElem?_eq_some_iff.1 h).1 (by intro e; cases e; omega)).trans h
  refine ⟨w.heap.size + 1, [{ target := .collected w.heap.size, args := #[] }], W1, { target := .fn (.func gf) lb, args := #[.func (.yield (w.heap.size + 1)) #[] #[]] }, W1, gf,
    #[.func (.yield (w.heap.size + 1)) #[] #[]] ++ lb, W1, ?_, ?_, ?_, ?_, fun _ => h1, ?_⟩
  · rw [← hW1, hrec]; exact run_enterLoop_outer _ _ _ _ _
  · simp only [resolve, hg]
    simp [go_sem]
  · intro f' hf'; simp [Target.leads] at hf'; subst hf'; exact hFg
  · simp [invoke, go_sem, eg]
  · refine (hseq (w.heap.size + 1)
      (fun pre W => I pre W ∧ W.heap[w.heap.size + 1]? = some (.loop (rec .ready none)) ∧ W.heap[w.heap.size]? = some (.deferred (some [])))
      (fun pre W => ∃ c, Ix c pre W ∧ W.heap[w.heap.size + 1]? = some (.loop (rec .done (some c))) ∧ W.heap[w.heap.size]? = some (.deferred (some [])))
      W1 hb1
      (fun s A B hs hg' => ⟨hIB s A B hs.1 hg', keep hg' (by omega) hs.2.1, keep hg' (by omega) hs.2.2⟩)
      (fun s A B hs hg' => by
        obtain ⟨c, hc, hl, hk⟩ := hs
        exact ⟨c, hIxB c s A B hc hg', keep hg' (by omega) hl, keep hg' (by omega) hk⟩)
      ?_ ⟨hI1, hL1, hK1⟩).mono ?_
    · rintro pre x post W ⟨hi, hl, hk⟩ hlen
      have hlt : w.heap.size + 1 < W.heap.size := (Array.getElem?_eq_some_iff.1 hl).1
      have hy := run_yield (P := P) (args := encs x) hl (by rw [hrec]; exact hps x)
      rw [hrec] at hy
      refine ⟨fn, _, assign, body, hy, roundIn_of_wpIn hfn (hassign _ x W _ ⟨_, run_beginRound hl (by rw [hrec]), ?_⟩)⟩
      have hl2 : (W.putObj (w.heap.size + 1) (.loop { rec .ready none with state := .busy })).heap[w.heap.size + 1]? = some (.loop { rec .ready none with state := .busy }) := World.putObj_heap_same hlt
      have hk2 : (W.putObj (w.heap.size + 1) (.loop { rec .ready none with state := .busy })).heap[w.heap.size]? = some (.deferred (some [])) := (World.putObj_heap_other (by omega)).trans hk
      have hw2 : Kp W (W.putObj (w.heap.size + 1) (.loop { rec .ready none with state := .busy })) := hKb _ _ _ (by omega)
      refine wpIn_mono (hbody _ pre x post _ (hI.putObj _ hi (by omega) hl rfl) hlen) ?_
      have fin : ∀ (jump : Option Code) (W3 : World), KeepsOthers (W.putObj (w.heap.size + 1) (.loop { rec .ready none with state := .busy })) W3 →
          (Instr.endRound (w.heap.size + 1) jump).run P W3 = .ok (.bool jump.isNone) (W3.putObj (w.heap.size + 1) (.loop (rec (if jump.isNone then .ready else .done) jump))) ∧
          W3.heap[w.heap.size + 1]? = some (.loop { rec .ready none with state := .busy }) ∧
          (W3.putObj (w.heap.size + 1) (.loop (rec (if jump.isNone then .ready else .done) jump))).heap[w.heap.size + 1]? = some (.loop (rec (if jump.isNone then .ready else .done) jump)) ∧
          (W3.putObj (w.heap.size + 1) (.loop (rec (if jump.isNone then .ready else .done) jump))).heap[w.heap.size]? = some (.deferred (some [])) := fun jump W3 hk3 => by
        have hl3 := hk3.same _ _ hl2 rfl
        have := run_endRound (P := P) jump hl3
        rw [hrec] at this ⊢
        exact ⟨this, by rw [hrec] at hl3; exact hl3, World.putObj_heap_same (Array.getElem?_eq_some_iff.1 hl3).1, (World.putObj_heap_other (by omega)).trans (hk3.same _ _ hk2 rfl)⟩
      rintro e a3 W3 hp
      cases e with
      | normal =>
        obtain ⟨hk3, hkp3, hi3⟩ := hp
        obtain ⟨hr, hl3, hl4, hk4⟩ := fin none W3 hk3
        exact ⟨_, _, hr, .inl ⟨rfl, ⟨hI.putObj _ hi3 (by omega) hl3 rfl, hl4, hk4⟩, hKt (hKt hw2 hkp3) (hKb _ _ _ (by omega))⟩⟩
      | ret =>
        obtain ⟨hk3, hi3⟩ := hp
        obtain ⟨hr, hl3, hl4, hk4⟩ := fin (some .ret) W3 hk3
        exact ⟨_, _, hr, .inr ⟨rfl, .ret, (hIx _).putObj _ hi3 (by omega) hl3 rfl, hl4, hk4⟩⟩
      | exit id =>
        obtain ⟨hk3, hi3⟩ := hp
        obtain ⟨hr, hl3, hl4, hk4⟩ := fin (some (.exit id)) W3 hk3
        exact ⟨_, _, hr, .inr ⟨rfl, .exit id, (hIx _).putObj _ hi3 (by omega) hl3 rfl, hl4, hk4⟩⟩
      | goto t =>
        obtain ⟨hk3, hi3⟩ := hp
        obtain ⟨hr, hl3, hl4, hk4⟩ := fin (some (.goto t)) W3 hk3
        exact ⟨_, _, hr, .inr ⟨rfl, .goto t, (hIx _).putObj _ hi3 (by omega) hl3 rfl, hl4, hk4⟩⟩
      | panic ch => exact hp.elim
      | outgrown => exact hp.elim
    · rintro e W2 ⟨⟨v, rfl⟩, (⟨hi, hl, hk⟩ | ⟨pre, hSp, c, hi, hl, hk⟩)⟩
      · exact ⟨none, _, by have := run_endLoop (P := P) hl (by rw [hrec]; simp); rw [hrec] at this; exact this, hdone _ _ (by omega) (hI.putObj _ hi (by omega) hl rfl) ((World.putObj_heap_other (by omega)).trans hk)⟩
      · exact ⟨some c, _, by have := run_endLoop (P := P) hl (by rw [hrec]; simp); rw [hrec] at this; exact this, hstop _ c pre _ (by omega) hSp ((hIx c).putObj _ hi (by omega) hl rfl) ((World.putObj_heap_other (by omega)).trans hk)⟩

end Go.Proofs.YtfiacgkhkonilaaGreatDoor

/- strings.SplitSeq(s, newline): what it hands back, and that the closure goes over the lines of s, in order. -/
namespace Go.Proofs.YtfiacgkhkonilaaGreatDoor
open Go Go.RowKit Go.Shelf Go.Proofs.YtfiacgkhkonilaaGreatDoorW.PrintWords
attribute [local go_sem] Oper.semAt_some

/-- The blocks lo, .., lo + 2 lie as they lay. -/
def Keep3 (lo : Nat) (W W' : World) : Prop := ∀ k, lo ≤ k → k < lo + 3 → W'.heap[k]? = W.heap[k]?

theorem grown_set (w : World) (b i : Nat) (v : Value) : w.grownBy (w.setCell ⟨b, i, none⟩ v) (some b) :=
  ⟨rfl, rfl, rfl, by simp, fun k _ hk => Below.heap_setCell w ⟨b, i, none⟩ v k (fun e => hk (by rw [e]))⟩

set_option maxRecDepth 100000 in
set_option maxHeartbeats 2000000 in
theorem split_seq (n b0 : Nat) (s : ByteArray) (hs : s.size ≤ 140737488351232) (hn : 1 ≤ n) (w : World)
    (h0 : w.heap[b0]? = some (.cells #[.string s] 9 (0, 0))) (h1 : w.heap[b0 + 1]? = some (.cells #[.string ⟨#[10]⟩] 9 (0, 0))) (h2 : w.heap[b0 + 2]? = some (.cells #[.int .i64 0] 3 (0, 0))) :
    SeqC Fence.wide n Tryz.prog 52 #[.pointer (some ⟨b0 + 1, 0, none⟩), .pointer (some ⟨b0, 0, none⟩), .pointer (some ⟨b0 + 2, 0, none⟩)] (fun x : ByteArray => #[Value.string x]) b0 (Keep3 b0) ((lines s.data.toList).map mk) w := by
  intro l J Jx W hW hJ hJx hY hJ0
  have lt0 : b0 < w.heap.size := (Array.getElem?_eq_some_iff.1 h0).1
  have lt1 : b0 + 1 < w.heap.size := (Array.getElem?_eq_some_iff.1 h1).1
  have lt2 : b0 + 2 < w.heap.size := (Array.getElem?_eq_some_iff.1 h2).1
  have H0 := (hW.block b0 lt0).trans h0
  have H1 := (hW.block (b0 + 1) lt1).trans h1
  have H2 := (hW.block (b0 + 2) lt2).trans h2
  clear hW h0 h1 h2
  refine callsIn_of_wp Tryz.func52 rfl trivial ?_ rfl
  simp only [Tryz.ntmps52, List.size_toArray, List.length_cons, List.length_nil, Nat.reduceAdd, Nat.reduceSub, Array.replicate_succ, Array.replicate_zero, List.push_toArray, List.append_toArray, List.nil_append, List.cons_append]
  have c1 : W.cell? ⟨b0 + 1, 0, none⟩ = some (.string ⟨#[10]⟩) := cell_of_row W (b0 + 1) 0 _ _ _ H1
  gi_wp2
  gi_loopw [7] (fun _ wr => ∃ (pre : List ByteArray) (r : ByteArray), (lines s.data.toList).map mk = pre ++ (lines r.data.toList).map mk ∧ r.size ≤ 140737488351232 ∧
      wr.heap[b0]? = some (.cells #[.string r] 9 (0, 0)) ∧ wr.heap[b0 + 1]? = some (.cells #[.string ⟨#[10]⟩] 9 (0, 0)) ∧ wr.heap[b0 + 2]? = some (.cells #[.int .i64 0] 3 (0, 0)) ∧ J pre wr)
    (fun _ wr => match wr.cell? ⟨b0, 0, none⟩ with | some (.string r) => r.size | _ => 0)
  case atStart => exact ⟨[], s, rfl, hs, H0, H1, H2, hJ0⟩
  case round =>
    obtain ⟨pre, r, hx, hr, G0, G1, G2, hJs⟩ := hrel
    have c0 : wr.cell? ⟨b0, 0, none⟩ = some (.string r) := cell_of_row wr b0 0 _ _ _ G0
    have c1' : wr.cell? ⟨b0 + 1, 0, none⟩ = some (.string ⟨#[10]⟩) := cell_of_row wr (b0 + 1) 0 _ _ _ G1
    have c2 : wr.cell? ⟨b0 + 2, 0, none⟩ = some (.int .i64 0) := cell_of_row wr (b0 + 2) 0 _ _ _ G2
    have hix := Tryz.strings_Index_one r 10 wr
    have hge := Lib.indexByte_ge r.data.toList 10
    by_cases hi : Lib.indexByte r.data.toList 10 = -1
    · rw [hi] at hix
      have HX := Lib.hid hix
      have hl := lines_none hi
      clear hix hge hi
      rw [hl] at hx
      obtain ⟨fn, tmps, assign, body, hy, hR⟩ := hY pre r [] wr hJs (by rw [hx]; simp [mk_of])
      have HX2 := Lib.hid hx
      clear hx hl H0 H1 H2 hY
      gi_wp2_with (refine ⟨trivial, ?_⟩; gi_at_call 54; refine ((callsIn_wide.2 HX.out)).mono ?_; rintro e w' ⟨rfl, rfl⟩)
      refine hR.mono ?_
      have hx := HX2.out
      rintro e W3 (⟨rfl, hJ3, hk3⟩ | ⟨rfl, hJx3⟩)
      · gi_wp2
        go_end0
        exact ⟨⟨_, rfl⟩, .inl (by rw [hx]; simpa [mk_of] using hJ3)⟩
      · gi_wp2
        go_end0
        exact ⟨⟨_, rfl⟩, .inr ⟨_, by rw [hx]; simp [mk_of], hJx3⟩⟩
    · obtain ⟨o, ho⟩ : ∃ o : Nat, Lib.indexByte r.data.toList 10 = o := ⟨(Lib.indexByte r.data.toList 10).toNat, by omega⟩
      rw [ho] at hix
      have HX := Lib.hid hix
      have hl := lines_some ho
      have hlt := index_lt ho
      rw [← Lib.size_eq] at hlt
      clear hix hge hi ho
      have hx' : List.map mk (lines s.data.toList) = pre ++ r.extract 0 o :: List.map mk (lines (r.extract (o + 1) r.size).data.toList) := by
        rw [hx, hl, List.map_cons]
        congr 2
        · rw [Lib.extract_eq]; simp [mk]
        · rw [Lib.extract_data]; congr 2; rw [Lib.size_eq, List.take_of_length_le]; simp
      obtain ⟨fn, tmps, assign, body, hy, hR⟩ := hY pre (r.extract 0 o) _ wr hJs hx'
      have HX2 := Lib.hid hx'
      clear hx hl H0 H1 H2 hY hx'
      gi_wp2_with (refine ⟨trivial, ?_⟩; gi_at_call 54; refine ((callsIn_wide.2 HX.out)).mono ?_; rintro e w' ⟨rfl, rfl⟩)
      refine hR.mono ?_
      have hx := HX2.out
      rintro e W3 (⟨rfl, hJ3, hk3⟩ | ⟨rfl, hJx3⟩)
      · have G0' := (hk3 b0 (by omega) (by omega)).trans G0
        have G1' := (hk3 (b0 + 1) (by omega) (by omega)).trans G1
        have G2' := (hk3 (b0 + 2) (by omega) (by omega)).trans G2
        have d0 : W3.cell? ⟨b0, 0, none⟩ = some (.string r) := cell_of_row W3 b0 0 _ _ _ G0'
        have d1 : W3.cell? ⟨b0 + 1, 0, none⟩ = some (.string ⟨#[10]⟩) := cell_of_row W3 (b0 + 1) 0 _ _ _ G1'
        have f0 : W3.frozen? ⟨b0, 0, none⟩ = false := by simp [World.frozen?, G0']
        clear hx
        have c0' := c0
        have C0 := Lib.hid c0'
        clear G0 G1 G2 c0 c1' c2 c0'
        have K0 := Lib.hid G0'
        have K1 := Lib.hid G1'
        have K2 := Lib.hid G2'
        clear G0' G1' G2' hk3 hR hy
        gi_wp2
        have e0 := blk_set K0.out 0 (.string (r.extract (o + 1) r.size))
        have e1 := blk_far K1.out (p := ⟨b0, 0, none⟩) (by simp) (.string (r.extract (o + 1) r.size))
        have e2 := blk_far K2.out (p := ⟨b0, 0, none⟩) (by simp) (.string (r.extract (o + 1) r.size))
        refine ⟨⟨pre ++ [r.extract 0 o], r.extract (o + 1) r.size, by rw [HX2.out]; simp, by rw [ByteArray.size_extract]; omega, e0, e1, e2, hJ _ _ _ hJ3 (grown_set W3 _ _ _)⟩, ?_⟩
        rw [cell_of_row _ b0 0 _ _ _ e0, C0.out]
        show (r.extract (o + 1) r.size).size < r.size
        rw [ByteArray.size_extract]; omega
      · gi_wp2
        refine bodyPost_ret (results_none rfl _ _ _) rfl ?_
        exact ⟨⟨_, rfl⟩, .inr ⟨_, by rw [hx]; simp, hJx3⟩⟩
end Go.Proofs.YtfiacgkhkonilaaGreatDoor

/- slices.Chunk(b, 2) of bytes whose number is even: what it hands back, and that the closure goes over the pairs, in order. -/
namespace Go.Proofs.YtfiacgkhkonilaaGreatDoor
open Go Go.RowKit Go.Shelf Go.Proofs.YtfiacgkhkonilaaGreatDoorW.PrintWords Go.Proofs.YtfiacgkhkonilaaGreatDoorW.PrintMore
attribute [local go_sem] Oper.semAt_some max2_int min2_int max_two min_two

/-- The blocks lo, lo + 1 lie as they lay. -/
def Keep2 (lo : Nat) (W W' : World) : Prop := ∀ k, lo ≤ k → k < lo + 2 → W'.heap[k]? = W.heap[k]?

theorem range_split {m k : Nat} (h : k < m) : List.range m = List.range k ++ k :: List.range' (k + 1) (m - k - 1) := by
  apply List.ext_getElem
  · simp; omega
  · intro i h1 h2
    simp only [List.getElem_range, List.getElem_append, List.length_range]
    split
    · rfl
    · rw [List.getElem_cons]
      split
      · omega
      · simp; omega

set_option maxRecDepth 100000 in
set_option maxHeartbeats 2000000 in
theorem chunk_seq (n b0 bb cap m : Nat) (hm : m ≤ 70368744177664) (hcap : 2 * m ≤ cap) (hcap2 : cap ≤ 9223372036854775807) (hn : 1 ≤ n) (w : World)
    (h0 : w.heap[b0]? = some (.cells #[.slice (some ⟨bb, 0, none⟩) (2 * m) cap] 35 (0, 0))) (h1 : w.heap[b0 + 1]? = some (.cells #[.int .i64 2] 3 (0, 0))) :
    SeqC Fence.wide n Tryz.prog 72 #[.pointer (some ⟨b0, 0, none⟩), .pointer (some ⟨b0 + 1, 0, none⟩)] (fun k : Nat => #[Value.slice (some ⟨bb, 2 * k, none⟩) 2 2]) b0 (Keep2 b0) (List.range m) w := by
  intro l J Jx W hW hJ hJx hY hJ0
  have lt0 : b0 < w.heap.size := (Array.getElem?_eq_some_iff.1 h0).1
  have lt1 : b0 + 1 < w.heap.size := (Array.getElem?_eq_some_iff.1 h1).1
  have H0 := (hW.block b0 lt0).trans h0
  have H1 := (hW.block (b0 + 1) lt1).trans h1
  clear hW h0 h1
  refine callsIn_of_wp Tryz.func72 rfl trivial ?_ rfl
  simp only [Tryz.ntmps72, List.size_toArray, List.length_cons, List.length_nil, Nat.reduceAdd, Nat.reduceSub, Array.replicate_succ, Array.replicate_zero, List.push_toArray, List.append_toArray, List.nil_append, List.cons_append]
  gi_wp2
  gi_loopw [4] (fun i wr => ∃ k : Nat, k ≤ m ∧ i = .int .i64 (2 * (k : Int)) ∧ wr.heap[b0]? = some (.cells #[.slice (some ⟨bb, 0, none⟩) (2 * m) cap] 35 (0, 0)) ∧ wr.heap[b0 + 1]? = some (.cells #[.int .i64 2] 3 (0, 0)) ∧ J (List.range k) wr)
    (fun i _ => 2 * m - (intOf i).toNat)
  case atStart => exact ⟨0, Nat.zero_le _, rfl, H0, H1, hJ0⟩
  case round =>
    obtain ⟨k, hk, rfl, G0, G1, hJs⟩ := hrel
    have c0 : wr.cell? ⟨b0, 0, none⟩ = some (.slice (some ⟨bb, 0, none⟩) (2 * m) cap) := cell_of_row wr b0 0 _ _ _ G0
    have c1 : wr.cell? ⟨b0 + 1, 0, none⟩ = some (.int .i64 2) := cell_of_row wr (b0 + 1) 0 _ _ _ G1
    clear H0 H1
    by_cases hlt : k < m
    · have hx := range_split hlt
      have HY := fun W1 hJ1 => hY (List.range k) k _ W1 hJ1 hx
      have HY2 := Lib.hid HY
      have HJ := Lib.hid hJ
      clear hY hx HY hJ hJx
      have hlt2 : 2 * (k : Int) < 2 * (m : Int) := by omega
      gi_wp2
      gi_quiet (fail)
      rename_i nq
      obtain ⟨fn, tmps, assign, body, hy, hR⟩ := HY2.out (wr.drewN nq) (HJ.out _ _ _ hJs ⟨rfl, rfl, rfl, Nat.le_refl _, fun _ _ _ => rfl⟩)
      have G0' := Lib.hid G0
      have G1' := Lib.hid G1
      clear G0 G1
      gi_wp2
      refine hR.mono ?_
      rintro e W3 (⟨rfl, hJ3, hk3⟩ | ⟨rfl, hJx3⟩)
      · have F0 : W3.heap[b0]? = some (.cells #[.slice (some ⟨bb, 0, none⟩) (2 * m) cap] 35 (0, 0)) := (hk3 b0 (by omega) (by omega)).trans G0'.out
        have F1 : W3.heap[b0 + 1]? = some (.cells #[.int .i64 2] 3 (0, 0)) := (hk3 (b0 + 1) (by omega) (by omega)).trans G1'.out
        have d1 : W3.cell? ⟨b0 + 1, 0, none⟩ = some (.int .i64 2) := cell_of_row W3 (b0 + 1) 0 _ _ _ F1
        have F0' := Lib.hid F0
        have F1' := Lib.hid F1
        clear F0 F1 hk3 hR hy
        gi_wp2
        refine ⟨⟨k + 1, by omega, by go_num, F0'.out, F1'.out, by rw [List.range_succ]; exact hJ3⟩, ?_⟩
        simp [intOf]; omega
      · gi_wp2
        refine bodyPost_ret (results_none rfl _ _ _) rfl ?_
        exact ⟨⟨_, rfl⟩, .inr ⟨_, by rw [← List.range_succ, range_split hlt, List.range_succ]; simp, hJx3⟩⟩
    · obtain rfl : k = m := by omega
      clear hY hJ hJx
      gi_wp2
      go_end0
      exact ⟨⟨_, rfl⟩, .inl hJs⟩
end Go.Proofs.YtfiacgkhkonilaaGreatDoor

/- The walk of script.number: a word is a number where ParseInt takes it and FormatInt gives it back. -/
namespace Go.Proofs.YtfiacgkhkonilaaGreatDoor
open Go Go.RowKit Go.Shelf Go.Proofs.YtfiacgkhkonilaaGreatDoorW.PrintWords

theorem parse_range {l : B} {v : Int} (h : Lib.parseIntB 64 l = .ok v) : -9223372036854775808 ≤ v ∧ v ≤ 9223372036854775807 := by
  cases l with
  | nil => simp [Lib.parseIntB] at h
  | cons c r =>
    simp only [Lib.parseIntB] at h
    split at h
    · cases h
    · cases h
    · rename_i u hu
      split at h
      · cases h
      · rename_i h1
        split at h
        · cases h
        · rename_i h2
          injection h with h
          simp only [Nat.reduceSub, Nat.reducePow] at h1 h2
          split at h <;> omega

set_option maxRecDepth 100000 in
theorem number_yes (s : ByteArray) (v : Int) (w : World) (hs : s.size ≤ 140737488351232) (he : Env w) (h : numOf s.data.toList = some v) :
    Calls Tryz.prog 59 #[.string s] w fun e w' => e = .returned (.tuple #[.int .i64 v, .bool true]) ∧ Below w.heap.size w w' := by
  unfold numOf at h
  split at h
  · rename_i v' hp
    split at h
    · rename_i hi
      injection h with h
      subst h
      have hr := parse_range hp
      have HP := Lib.hid (parse_ok s hs v' hp w)
      have HE := Lib.hid he
      have HF := Lib.hid (fun w1 he1 => format_any v' hr.1 hr.2 w1 he1)
      have e0 : mk (Lib.itoa v') = s := by rw [hi, mk_of]
      have HI := Lib.hid e0
      clear hp hi he e0
      go_enter Tryz.func59, Tryz.ntmps59
      go_wp2_with (first | (go_at_call 73; refine HP.out.mono ?_; rintro e w1 ⟨rfl, hb1⟩) | (go_at_call 48; refine (HF.out _ (HE.out.below hb1)).mono ?_; rw [HI.out]; rintro e w2 ⟨rfl, hb2⟩))
      go_ret2
      exact ⟨rfl, below_step hb1 hb2⟩
    · cases h
  · cases h
set_option maxRecDepth 100000 in
theorem number_no (s : ByteArray) (w : World) (hs : s.size ≤ 140737488351232) (he : Env w) (h : numOf s.data.toList = none) :
    Calls Tryz.prog 59 #[.string s] w fun e w' => (∃ x, e = .returned (.tuple #[.int .i64 x, .bool false])) ∧ Below w.heap.size w w' := by
  by_cases hp : ∃ v, Lib.parseIntB 64 s.data.toList = .ok v
  · obtain ⟨v, hp⟩ := hp
    have hi : Lib.itoa v ≠ s.data.toList := fun hi => by simp [numOf, hp, hi] at h
    have hr := parse_range hp
    have HP := Lib.hid (parse_ok s hs v hp w)
    have HE := Lib.hid he
    have HF := Lib.hid (fun w1 he1 => format_any v hr.1 hr.2 w1 he1)
    have e0 : ((mk (Lib.itoa v)).toList == s.toList) = false := by
      rw [Lib.toList_data, Lib.toList_data, mk_data]; simpa using hi
    clear hp hi he h
    go_enter Tryz.func59, Tryz.ntmps59
    go_wp2_with (first | (go_at_call 73; refine HP.out.mono ?_; rintro e w1 ⟨rfl, hb1⟩) | (go_at_call 48; refine (HF.out _ (HE.out.below hb1)).mono ?_; rintro e w2 ⟨rfl, hb2⟩))
    go_ret2
    exact ⟨⟨_, rfl⟩, below_step hb1 hb2⟩
  · have HP := Lib.hid (parse_no s hs (fun v hv => hp ⟨v, hv⟩) w he)
    clear hp he h
    go_enter Tryz.func59, Tryz.ntmps59
    go_wp2_with (go_at_call 73; refine HP.out.mono ?_; rintro e w1 ⟨⟨x, p, rfl⟩, hb1⟩)
    go_ret2
    exact ⟨⟨_, rfl⟩, hb1⟩
end Go.Proofs.YtfiacgkhkonilaaGreatDoor
