/- ScriptReads: for every text, on every schedule, the law answers true and leaves the text as it was; the variables that the card lists are tied to the program's text. -/
import Derived.Test.YtfiacgkhkonilaaGreatDoorReadsPart6
import Derived.Test.YtfiacgkhkonilaaGreatDoorPalikeCommandx2
import Derived.Test.YtfiacgkhkonilaaGreatDoorPVerbsx1
import Derived.Deep.RegionWith
import Derived.StillTailTactics
import Derived.Deep.RegionHeld3
import Derived.Outline
import Derived.WalkKit
import Derived.SevenTiedAt
/- The walks of script.Verbs and of sure. -/
namespace Go.Proofs.YtfiacgkhkonilaaGreatDoor
open Go Go.RowKit Go.Proofs.YtfiacgkhkonilaaGreatDoorW.PrintWords Go.Proofs.YtfiacgkhkonilaaGreatDoorW.PrintLast Go.Proofs.YtfiacgkhkonilaaGreatDoorW.PrintMore

def verbList : List ByteArray := [⟨#[115, 101, 116]⟩, ⟨#[109, 111, 100, 101, 108]⟩, ⟨#[114, 111, 119]⟩, ⟨#[115, 116, 97, 114, 116]⟩, ⟨#[116, 114, 97, 99, 107, 115]⟩, ⟨#[99, 111, 117, 110, 116, 115]⟩, ⟨#[116, 105, 109, 101]⟩, ⟨#[115, 99, 97, 110]⟩, ⟨#[114, 97, 119]⟩, ⟨#[99, 111, 110, 102, 105, 103]⟩, ⟨#[116, 114, 97, 99, 107]⟩, ⟨#[99, 111, 117, 110, 116]⟩]
set_option maxRecDepth 100000 in
theorem verbs_call (w : World) : Calls Tryz.prog 11 #[] w fun e w' => e = .returned (.slice (some ⟨w.heap.size, 0, none⟩) 12 12) ∧ w' = w.alloc (.cells (verbList.map Value.string).toArray 9) := by
  go_enter Tryz.func11, Tryz.ntmps11
  go_wp2
  go_ret
  exact ⟨rfl, rfl⟩

def sureText : ByteArray := ⟨#[37, 32, 97, 32, 110, 111, 116, 101, 10, 115, 99, 97, 110, 32, 49, 48, 48, 32, 53, 48, 48, 48, 32, 57, 10]⟩
def sureCmd : Cmd := ⟨2, vScan, [], [100, 5000, 9], []⟩
theorem sure_parse : parseLines 0 (lines sureText.data.toList) [] = .ok [sureCmd] := by
  have e : lines sureText.data.toList = [[37, 32, 97, 32, 110, 111, 116, 101], [115, 99, 97, 110, 32, 49, 48, 48, 32, 53, 48, 48, 48, 32, 57], []] := by decide +kernel
  have n1 : numOf [49, 48, 48] = some 100 := by rw [numOf_ref]; decide +kernel
  have n2 : numOf [53, 48, 48, 48] = some 5000 := by rw [numOf_ref]; decide +kernel
  have n3 : numOf [57] = some 9 := by rw [numOf_ref]; decide +kernel
  have w1 : wordsOf [37, 32, 97, 32, 110, 111, 116, 101] = [] := by decide +kernel
  have w2 : wordsOf [115, 99, 97, 110, 32, 49, 48, 48, 32, 53, 48, 48, 48, 32, 57] = [vScan, [49, 48, 48], [53, 48, 48, 48], [57]] := by decide +kernel
  have w3 : wordsOf [] = [] := by decide +kernel
  have hn : needOf vScan = some ⟨0, false, 3, 129, false⟩ := rfl
  have hr : readCmd [vScan, [49, 48, 48], [53, 48, 48, 48], [57]] = some ⟨0, vScan, [], [100, 5000, 9], []⟩ := by
    simp only [readCmd, hn]
    simp [numsOf, n1, n2, n3, Need.right]
  rw [e, parseLines_app, w1]
  simp only []
  rw [parseLines_app, w2]
  simp only [hr]
  rw [parseLines_app, w3]
  rfl
/-- A command in a row that is read. -/
theorem cmd_at {w : World} {A : Option Addr} {n : Nat} {cs : List Cmd} (h : kdCmd.C w A n cs) (i : Nat) (c : Cmd) (hc : cs[i]? = some c) : ∃ ad A1 c1 A2 c2 A3 c3, A = some ad ∧
    (w.cell? (ad.add (i * 5)) = some (.int .i64 c.line) ∧ w.cell? (ad.add (i * 5 + 1)) = some (.string (mk c.verb)) ∧ w.cell? (ad.add (i * 5 + 2)) = some (.slice A1 (c.words.map mk).length c1) ∧ w.cell? (ad.add (i * 5 + 3)) = some (.slice A2 c.nums.length c2) ∧ w.cell? (ad.add (i * 5 + 4)) = some (.slice A3 c.bytes.length c3)) ∧
    (Kd.string.C w A1 (c.words.map mk).length (c.words.map mk) ∧ (c.words.map mk).length ≤ c1) ∧ ((Kd.int .i64).C w A2 c.nums.length c.nums ∧ c.nums.length ≤ c2) ∧ ((Kd.int .u8).C w A3 c.bytes.length c.bytes ∧ c.bytes.length ≤ c3) := by
  obtain ⟨h1, h2, h3⟩ := h
  have hlt : i < cs.length := (List.getElem?_eq_some_iff.1 hc).1
  obtain ⟨ad, hA, hall⟩ := h3 (by omega)
  obtain ⟨v, _, hk, hv⟩ := hall i c hc
  obtain ⟨a0, r0, rfl, ha0, b0, r1, rfl, hb0, d0, r2, rfl, ⟨A1, c1, rfl, hl1, hC1⟩, e0, f0, rfl, ⟨A2, c2, rfl, hl2, hC2⟩, ⟨A3, c3, rfl, hl3, hC3⟩⟩ := hk
  have ha0' : a0 = [.int .i64 c.line] := ha0
  have hb0' : b0 = [.string (mk c.verb)] := hb0
  subst ha0' hb0'
  exact ⟨ad, A1, c1, A2, c2, A3, c3, hA, ⟨hv 0 _ rfl, hv 1 _ rfl, hv 2 _ rfl, hv 3 _ rfl, hv 4 _ rfl⟩, ⟨hC1, hl1⟩, ⟨hC2, hl2⟩, ⟨hC3, hl3⟩⟩

theorem sure_call (w : World) (he : Env w) : Calls Tryz.prog 7 #[.string sureText] w fun e w' => Below w.heap.size w w' ∧ ∃ g c ad2 c2, e = .returned (.tuple #[.slice (some ⟨g, 0, none⟩) 1 c, .int .i64 0, .nilIface]) ∧ 1 ≤ c ∧ 3 ≤ c2 ∧
    w'.cell? ⟨g, 0, none⟩ = some (.int .i64 2) ∧ w'.cell? ⟨g, 1, none⟩ = some (.string ⟨#[115, 99, 97, 110]⟩) ∧ w'.cell? ⟨g, 3, none⟩ = some (.slice (some ad2) 3 c2) ∧ w'.cell? ⟨ad2.block, ad2.off + 1, none⟩ = some (.int .i64 5000) := by
  refine (parse_any sureText w he).mono ?_
  rintro e w' ⟨hb, h⟩
  rw [if_neg (by decide), sure_parse] at h
  obtain ⟨A, c, rfl, hc, hC, hg⟩ := h
  obtain ⟨g, rfl⟩ := hg (by decide)
  obtain ⟨ad, A1, c1, A2, c2, A3, c3, hA, ⟨f0, f1, f2, f3, f4⟩, _, ⟨hC2, hl2⟩, _⟩ := cmd_at hC 0 sureCmd rfl
  cases hA
  obtain ⟨ad2, e2, g1⟩ := Kd.at_int hC2 1 (by decide) (by decide)
  subst e2
  exact ⟨hb, g, c, ad2, c2, rfl, hc, hl2, f0, f1, f3, g1⟩
set_option maxRecDepth 100000 in
set_option maxHeartbeats 1000000 in
/-- sure holds. -/
theorem sure_any (w : World) (he : Env w) : Calls Tryz.prog 6 #[] w fun e w' => e = .returned (.bool true) ∧ Below w.heap.size w w' := by
  have HS := Lib.hid (sure_call w he)
  clear he
  go_enter Tryz.func6, Tryz.ntmps6
  go_wp2_with (first
    | (go_at_call 7; refine HS.out.mono ?_; rintro e w1 ⟨hb1, g, cp, ad2, c2, rfl, hcp, hc2, f0, f1, f3, g1⟩; have HB1 := Lib.hid hb1; clear hb1)
    | (go_at_call 11; refine (verbs_call _).mono ?_; rintro e w2 ⟨rfl, rfl⟩))
  go_ret
  exact ⟨rfl, HB1.out.trans ((Below.refl _ _).alloc (Nat.le_trans HB1.out.size (Nat.le_refl _)) _)⟩
end Go.Proofs.YtfiacgkhkonilaaGreatDoor

/- alikeCommand, as printed, holds of a command and itself; the document's Verbs. -/
namespace Go.Proofs.YtfiacgkhkonilaaGreatDoor
open Go Go.RowKit Go.Proofs.YtfiacgkhkonilaaGreatDoorW.PrintWords
open Go.Proofs.YtfiacgkhkonilaaGreatDoor.PalikeCommand Go.Proofs.YtfiacgkhkonilaaGreatDoor.PVerbs

theorem same_nums (a : Int) (v : ByteArray) (W : List ByteArray) (N B : List Int) (hN : N.length ≤ 9223372036854775807) : ∀ d k, k + d = N.length → radomeref40_Same.l1 (d + 1) (k : Int) a v W N B a v W N B = some true
  | 0, k, h => by
    unfold radomeref40_Same.l1
    rw [if_neg (by omega)]
  | d + 1, k, h => by
    unfold radomeref40_Same.l1
    rw [if_pos (by omega), if_pos (by omega), if_pos (by omega), if_pos rfl, wrap_succ k (by omega)]
    exact same_nums a v W N B hN d (k + 1) (by omega)
theorem same_words (a : Int) (v : ByteArray) (W : List ByteArray) (N B : List Int) (hW : W.length ≤ 9223372036854775807) (hN : N.length ≤ 9223372036854775807) : ∀ d k, k + d = W.length → radomeref40_Same.l0 (d + N.length + 2) (k : Int) a v W N B a v W N B = some true
  | 0, k, h => by
    rw [show 0 + N.length + 2 = (N.length + 1) + 1 by omega]
    unfold radomeref40_Same.l0
    rw [if_neg (by omega)]
    exact same_nums a v W N B hN N.length 0 (by omega)
  | d + 1, k, h => by
    rw [show d + 1 + N.length + 2 = (d + N.length + 2) + 1 by omega]
    unfold radomeref40_Same.l0
    rw [if_pos (by omega), if_pos (by omega), if_pos (by omega), if_pos rfl, wrap_succ k (by omega)]
    exact same_words a v W N B hW hN d (k + 1) (by omega)
theorem same_law (a : Int) (v : ByteArray) (W : List ByteArray) (N B : List Int) (hW : W.length ≤ 9223372036854775807) (hN : N.length ≤ 9223372036854775807) : radomeref40_Same.f (W.length + N.length + 3) a v W N B a v W N B = some true := by
  unfold radomeref40_Same.f
  rw [if_pos rfl, if_pos rfl, if_pos rfl, if_pos rfl]
  show radomeref40_Same.j0 (W.length + N.length + 2 + 1) _ a v W N B a v W N B = _
  unfold radomeref40_Same.j0
  dsimp only
  rw [if_neg (by simp)]
  exact same_words a v W N B hW hN W.length 0 (by omega)
theorem alike_law (a : Int) (v : ByteArray) (W : List ByteArray) (N B : List Int) (hW : W.length ≤ 9223372036854775807) (hN : N.length ≤ 9223372036854775807) : radomelaw40_alikeCommand.f (W.length + N.length + 3) a v W N B a v W N B = some true := by
  unfold radomelaw40_alikeCommand.f
  rw [same_law a v W N B hW hN]; rfl
theorem ref_verbs (w : World) : Calls Tryz.prog 12 #[] w fun e w' => ∃ v, e = .returned v ∧ Kd.string.R 9 w' w.heap.size (fun _ => True) v verbList ∧ Below w.heap.size w w' :=
  radomeref40_Verbs.calls verbList w rfl
end Go.Proofs.YtfiacgkhkonilaaGreatDoor

/- The walk of the law ScriptReads. -/
namespace Go.Proofs.YtfiacgkhkonilaaGreatDoor
open Go Go.RowKit Go.Proofs.YtfiacgkhkonilaaGreatDoorW.PrintWords Go.Proofs.YtfiacgkhkonilaaGreatDoorW.PrintLast Go.Proofs.YtfiacgkhkonilaaGreatDoorW.PrintMore
open Go.Proofs.YtfiacgkhkonilaaGreatDoor.PalikeCommand

/-- What a text is: its commands, the line that is wrong, the error's number. -/
def resOf (s : ByteArray) : List Cmd × Nat × Int := if 65536 < s.size then ([], 0, 2) else match parseLines 0 (lines s.data.toList) [] with
  | .ok cs => (cs, 0, 0)
  | .error k => ([], k, 337)
/-- An error's value. -/
def errVal (n : Int) : Value := if n = 0 then .nilIface else .iface 47 (.int .i64 n)
theorem parse_uni (s : ByteArray) (w : World) (he : Env w) : Calls Tryz.prog 7 #[.string s] w fun e w' => Below w.heap.size w w' ∧ ∃ A c, e = .returned (.tuple #[.slice A (resOf s).1.length c, .int .i64 (resOf s).2.1, errVal (resOf s).2.2]) ∧ (resOf s).1.length ≤ c ∧ kdCmd.C w' A (resOf s).1.length (resOf s).1 ∧ (0 < (resOf s).1.length → ∃ g, A = some ⟨g, 0, none⟩) := by
  refine (parse_any s w he).mono ?_
  rintro e w' ⟨hb, h⟩
  refine ⟨hb, ?_⟩
  unfold resOf
  by_cases hl : 65536 < s.size
  · rw [if_pos hl] at h ⊢
    exact ⟨none, 0, h, Nat.le_refl _, Kd.C_nil _ _, fun h => by simp at h⟩
  · rw [if_neg hl] at h ⊢
    cases hp : parseLines 0 (lines s.data.toList) [] with
    | ok cs =>
      rw [hp] at h
      obtain ⟨A, c, h1, h2, h3, h4⟩ := h
      exact ⟨A, c, h1, h2, h3, h4⟩
    | error k =>
      rw [hp] at h
      exact ⟨none, 0, h, Nat.le_refl _, Kd.C_nil _ _, fun h => by simp at h⟩
theorem refparse_uni (s : ByteArray) (w : World) : Calls Tryz.prog 8 #[.string s] w fun e w' => Below w.heap.size w w' ∧ ∃ A c, e = .returned (.tuple #[.slice A (resOf s).1.length c, .int .i64 (resOf s).2.1, .int .i64 (resOf s).2.2]) ∧ (resOf s).1.length ≤ c ∧ kdCmd.C w' A (resOf s).1.length (resOf s).1 ∧ (0 < (resOf s).1.length → ∃ g, A = some ⟨g, 0, none⟩) := by
  refine (refparse_any s w).mono ?_
  rintro e w' ⟨hb, h⟩
  refine ⟨hb, ?_⟩
  unfold resOf
  by_cases hl : 65536 < s.size
  · rw [if_pos hl] at h ⊢
    exact ⟨none, 0, h, Nat.le_refl _, Kd.C_nil _ _, fun h => by simp at h⟩
  · rw [if_neg hl] at h ⊢
    cases hp : parseLines 0 (lines s.data.toList) [] with
    | ok cs =>
      rw [hp] at h
      obtain ⟨A, c, h1, h2, h3, h4⟩ := h
      exact ⟨A, c, h1, h2, h3, h4⟩
    | error k =>
      rw [hp] at h
      exact ⟨none, 0, h, Nat.le_refl _, Kd.C_nil _ _, fun h => by simp at h⟩
theorem num_any (n : Int) (w : World) (he : Env w) : Calls Tryz.prog 9 #[errVal n] w fun e w' => e = .returned (.int .i64 n) ∧ Below w.heap.size w w' := by
  unfold errVal
  split
  · rename_i h; subst h; exact num_nil w
  · exact num_errno n w he

theorem cell_lit (w : World) (cs : Array Value) (e : Nat) (k : Nat) (v : Value) (h : cs[k]? = some v) : (w.alloc (.cells cs e)).cell? ⟨w.heap.size, k, none⟩ = some v := by
  unfold World.cell?
  rw [show (w.alloc (.cells cs e)).heap[w.heap.size]? = some (.cells cs e (0, 0)) from heap_alloc_new w _]
  exact h
theorem verbs_any (w : World) : Calls Tryz.prog 11 #[] w fun e w' => Below w.heap.size w w' ∧ ∃ g, e = .returned (.slice (some ⟨g, 0, none⟩) 12 12) ∧ ∀ k, k < 12 → w'.cell? ⟨g, k, none⟩ = some (.string (verbList.getD k ByteArray.empty)) := by
  refine (verbs_call w).mono ?_
  rintro e w' ⟨rfl, rfl⟩
  refine ⟨(Below.refl _ _).alloc (Nat.le_refl _) _, _, rfl, fun k hk => cell_lit _ _ _ _ _ ?_⟩
  have hl : verbList.length = 12 := rfl
  simp [List.getD, List.getElem?_eq_getElem (show k < verbList.length by omega), List.getElem?_map]
theorem ref_verbs_any (w : World) : Calls Tryz.prog 12 #[] w fun e w' => Below w.heap.size w w' ∧ ∃ g c, e = .returned (.slice (some ⟨g, 0, none⟩) 12 c) ∧ 12 ≤ c ∧ ∀ k, k < 12 → w'.cell? ⟨g, k, none⟩ = some (.string (verbList.getD k ByteArray.empty)) := by
  refine (ref_verbs w).mono ?_
  rintro e w' ⟨v, rfl, hR, hb⟩
  have hl : verbList.length = 12 := rfl
  obtain ⟨g, c, rfl, _⟩ := Kd.R_form hR (by rw [hl]; omega)
  obtain ⟨_, hc, hC⟩ := Kd.R_reads' hR
  rw [hl] at hc
  refine ⟨hb, g, c, rfl, hc, fun k hk => ?_⟩
  obtain ⟨ad, e1, h1⟩ := Kd.at_string hC k (by omega) (by rw [hl]; omega)
  cases e1
  have ea : Addr.add ⟨g, 0, none⟩ k = ⟨g, k, none⟩ := by unfold Addr.add; split <;> simp_all
  rw [Int.toNat_natCast, ea] at h1
  rw [h1]
  simp [rdOf]

set_option maxRecDepth 100000 in
set_option maxHeartbeats 1000000 in
theorem reads_mid (s : ByteArray) (w : World) (he : Env w) (h1 : 5000 < s.size) (h2 : s.size ≤ 65536) : Calls Tryz.prog 3 #[.string s] w fun e w' => e = .returned (.bool true) ∧ Below w.heap.size w w' := by
  have a1 : (5000 : Int) < (s.size : Int) := by omega
  have a2 : (s.size : Int) ≤ 65536 := by omega
  have HS := Lib.hid (sure_any w he)
  clear h1 h2 he
  go_enter Tryz.func3, Tryz.ntmps3
  go_wp2_with (go_at_call 6; refine HS.out.mono ?_; rintro e w1 ⟨rfl, hb⟩)
  go_ret
  exact ⟨rfl, hb⟩

theorem below3 {w w1 w2 w3 : World} (h1 : Below w.heap.size w w1) (h2 : Below w1.heap.size w1 w2) (h3 : Below w2.heap.size w2 w3) : Below w.heap.size w w3 :=
  (h1.trans (h2.mono h1.size)).trans (h3.mono (Nat.le_trans h1.size h2.size))
theorem below2 {w w1 w2 : World} (h1 : Below w.heap.size w w1) (h2 : Below w1.heap.size w1 w2) : Below w.heap.size w w2 := h1.trans (h2.mono h1.size)
/-- The relations of the two loops: how far, and that all that was there stays. -/
def RL (n : Nat) (w3 : World) (i : Value) (wr : World) : Prop := ∃ k : Nat, k ≤ n ∧ i = .int .i64 k ∧ Below w3.heap.size w3 wr

set_option maxRecDepth 100000 in
set_option maxHeartbeats 2000000 in
theorem reads_rest (s : ByteArray) (w : World) (he : Env w) (h : ¬ (5000 < s.size ∧ s.size ≤ 65536)) : Calls Tryz.prog 3 #[.string s] w fun e w' => e = .returned (.bool true) ∧ Below w.heap.size w w' := by
  have HP := Lib.hid (parse_uni s w he)
  have HR := Lib.hid (fun W => refparse_uni s W)
  have HN := Lib.hid (fun W (h : Env W) => num_any (resOf s).2.2 W h)
  have HE := Lib.hid he
  generalize resOf s = r at *
  obtain ⟨cs, at_, en⟩ := r
  clear he
  rcases (show (s.size ≤ 5000) ∨ (5000 < s.size ∧ 65536 < s.size) by omega) with a | ⟨a, a'⟩
  all_goals
    (first
      | (have a2 : (5000 : Int) < (s.size : Int) := by omega
         have a3 : ¬ (s.size : Int) ≤ 65536 := by omega
         clear a a')
      | (have a1 : ¬ (5000 : Int) < (s.size : Int) := by omega
         clear a))
    clear h
    go_enter Tryz.func3, Tryz.ntmps3
    go_wp2_with (first
      | (go_at_call 7; refine HP.out.mono ?_; rintro e w1 ⟨hb1, A, c, rfl, hc, hC, hg⟩; dsimp only; have HB1 := Lib.hid hb1; have HC := Lib.hid hC; clear hb1 hC)
      | (go_at_call 8; refine (HR.out _).mono ?_; rintro e w2 ⟨hb2, A', c', rfl, hc', hC', hg'⟩; dsimp only; have HB2 := Lib.hid hb2; have HC' := Lib.hid hC'; clear hb2 hC')
      | (go_at_call 9; refine (HN.out _ (HE.out.below (HB1.out.trans (HB2.out.mono HB1.out.size)))).mono ?_; rintro e w3 ⟨rfl, hb3⟩; dsimp only; have HB3 := Lib.hid hb3; clear hb3))
    have hw3 : Below w.heap.size w w3 := below3 HB1.out HB2.out HB3.out
    have hC3 := Kd.C_below (Kd.C_below HC.out HB2.out) HB3.out
    have hC3' := Kd.C_below HC'.out HB3.out
    have HW3 := Lib.hid hw3
    have HC3 := Lib.hid hC3
    have HC3' := Lib.hid hC3'
    have HG := Lib.hid hg
    have HG' := Lib.hid hg'
    have hlen : cs.length ≤ 9223372036854775807 := hC3.2.1
    clear hw3 hC3 hC3' hg hg'
    go_loopw [9] (fun i wr => RL cs.length w3 i wr) (fun i _ => cs.length - (intOf i).toNat)
    case atStart => exact ⟨0, Nat.zero_le _, rfl, Below.refl _ _⟩
    case round =>
      obtain ⟨k, hk, rfl, hbk⟩ := hrel
      have HBK := Lib.hid hbk
      by_cases hkn : k < cs.length
      · have hkn2 : (k : Int) < (cs.length : Int) := by omega
        obtain ⟨g, rfl⟩ := HG.out (by omega)
        obtain ⟨g', rfl⟩ := HG'.out (by omega)
        have hCk := Kd.C_below HC3.out hbk
        have hCk' := Kd.C_below HC3'.out hbk
        obtain ⟨ad, A1, c1, A2, c2, A3, c3, hA, ⟨f0, f1, f2, f3, f4⟩, hw, hn, hb⟩ := cmd_at hCk k (cs[k]'hkn) (List.getElem?_eq_getElem hkn)
        cases hA
        obtain ⟨ad', A1', c1', A2', c2', A3', c3', hA', ⟨f0', f1', f2', f3', f4'⟩, hw', hn', hb'⟩ := cmd_at hCk' k (cs[k]'hkn) (List.getElem?_eq_getElem hkn)
        cases hA'
        clear hbk hCk hCk'
        have ea : ∀ g n : Nat, Addr.add ⟨g, 0, none⟩ n = ⟨g, n, none⟩ := fun g n => by unfold Addr.add; split <;> simp_all
        rw [ea] at f0 f1 f2 f3 f4 f0' f1' f2' f3' f4'
        generalize cs[k]'hkn = cm at *
        have hal : ∀ W, Below wr.heap.size wr W → Calls Tryz.prog 10 #[.agg #[.int .i64 cm.line, .string (mk cm.verb), .slice A1 (cm.words.map mk).length c1, .slice A2 cm.nums.length c2, .slice A3 cm.bytes.length c3], .agg #[.int .i64 cm.line, .string (mk cm.verb), .slice A1' (cm.words.map mk).length c1', .slice A2' cm.nums.length c2', .slice A3' cm.bytes.length c3']] W fun e w' => e = .returned (.bool true) ∧ Below W.heap.size W w' := fun W hW =>
          radomelaw40_alikeCommand.calls _ _ _ _ _ _ _ _ _ _ _ _ _ _ _ _ _ _ _ _ _ _ _ true W (Kd.C_below hw.1 hW) hw.2 (Kd.C_below hn.1 hW) hn.2 (Kd.C_below hb.1 hW) hb.2 (Kd.C_below hw'.1 hW) hw'.2 (Kd.C_below hn'.1 hW) hn'.2 (Kd.C_below hb'.1 hW) hb'.2 (alike_law _ _ _ _ _ hw.1.2.1 hn.1.2.1)
        have hal1 := hal wr.drew (Below.refl _ _).drew
        rw [List.length_map] at hal1
        have HAL := Lib.hid hal1
        clear hal hal1 hw hn hb hw' hn' hb'
        go_wp2
        go_still_tail 8, (by kernel_rfl)
        change wpList _ _ _ _ _ wr.drew
        go_wp2_with (go_at_call 10; refine HAL.out.mono ?_; rintro e w4 ⟨rfl, hb4⟩)
        go_roundw
        case rel => exact ⟨k + 1, by omega, by go_num, HBK.out.trans ((Below.refl _ wr).drew.trans (hb4.mono HBK.out.size))⟩
        case measure => simp [intOf]; omega
      · have hkn2 : ¬ (k : Int) < (cs.length : Int) := by omega
        clear hbk hkn
        go_wp2_with (go_at_call 11; refine (verbs_any _).mono ?_; rintro e w5 ⟨hb5, gv, rfl, hv⟩; have HB5 := Lib.hid hb5; have HV := Lib.hid hv; clear hb5 hv)
        have hgv : gv < w5.heap.size := World.block_lt_of_cell? w5 _ (HV.out 0 (by omega))
        go_loopw [11] (fun i wr => RL 12 w5 i wr) (fun i _ => 12 - (intOf i).toNat)
        case atStart => exact ⟨0, Nat.zero_le _, rfl, Below.refl _ _⟩
        case round =>
          obtain ⟨j, hj, rfl, hbj⟩ := hrel
          rename_i wq _ _ _ _
          have HBJ := Lib.hid hbj
          by_cases hjn : j < 12
          · have hjn2 : (j : Int) < 12 := by omega
            have fj := (hbj.cell (p := ⟨gv, j, none⟩) hgv).trans (HV.out j hjn)
            have m1 : (j : Int) % 12 = j := by omega
            have m2 : (j : Int).tmod 12 = j := by rw [Int.tmod_eq_emod_of_nonneg (by omega)]; exact m1
            have HRV := Lib.hid (fun W => (ref_verbs_any W).mono (R' := fun e w' => Below W.heap.size W w' ∧ ∃ g c, e = .returned (.slice (some ⟨g, 0, none⟩) 12 c) ∧ 12 ≤ c ∧ w'.cell? ⟨g, j, none⟩ = some (.string (verbList.getD j ByteArray.empty))) (fun e w' ⟨h1, g, c, h2, h3, h4⟩ => ⟨h1, g, c, h2, h3, h4 j hjn⟩))
            generalize verbList.getD j ByteArray.empty = x at *
            clear hbj
            go_wp2
            go_region_with (go_at_call 12; refine (HRV.out _).mono ?_; rintro e w6 ⟨hb6, g6, c6, rfl, hc6, f6⟩; have ck : w6.cell? ⟨gv, j, none⟩ = some (.string x) := (hb6.cell (p := ⟨gv, j, none⟩) (Nat.lt_of_lt_of_le hgv HBJ.out.size)).trans fj)
            all_goals
              go_wp2
              go_roundw
              case rel => exact ⟨j + 1, by omega, by go_num, HBJ.out.trans ((Below.refl _ wr).drew.trans (hb6.mono HBJ.out.size))⟩
              case measure => simp [intOf]; omega
          · have hjn2 : ¬ (j : Int) < 12 := by omega
            have hall := below3 HW3.out (below2 HBK.out HB5.out) HBJ.out
            have hsu := sure_any wr (HE.out.below hall)
            have HALL := Lib.hid hall
            have HSU := Lib.hid hsu
            clear hbj hjn hall hsu
            go_wp2_with (go_at_call 6; refine HSU.out.mono ?_; rintro e w7 ⟨rfl, hb7⟩)
            go_ret
            exact ⟨rfl, below2 HALL.out hb7⟩
theorem reads_all (s : ByteArray) (w : World) (he : Env w) : Calls Tryz.prog 3 #[.string s] w fun e w' => e = .returned (.bool true) ∧ Below w.heap.size w w' := by
  by_cases h : 5000 < s.size ∧ s.size ≤ 65536
  · exact reads_mid s w he h.1 h.2
  · exact reads_rest s w he h
end Go.Proofs.YtfiacgkhkonilaaGreatDoor

/- ScriptReads: for every text, on every schedule, the law answers true and leaves the text as it was; the variables that the card lists are tied to the program's text. -/
namespace Go.Proofs.YtfiacgkhkonilaaGreatDoor
open Go.ChangeShapes Go.WideShapes Go.ChangeAt Go.RowKit Go.ChangeMaps
set_option maxRecDepth 100000 in
theorem reads_lifted (os : Os) (started : os.Started) (H : Type) (enc : TypeId × Value → H) :
    ReturnsInHanded {} Tryz.checked os 3 .any (fun w args => (Rows.scriptReadsSpec.pre enc Tryz.prog Tryz.f3 [] false w args ∧ laidMetH Tryz.prog laid8 w) ∧ sizedMet enc Tryz.prog Tryz.f3 (OpenSpec.ofChange Rows.scriptReadsSpec) false w args)
      (Rows.scriptReadsSpec.post enc Tryz.prog Tryz.f3 false true false false) := by
  refine returnsInHanded_of_change_and (C := Tryz.checked) (X := fun w _ => laidMetH Tryz.prog laid8 w) (fun _ _ _ hh h => h.of_heap hh) own started (by kernel_rfl) Tryz.func3
    (ChangeSpec.witness_shaped (enc := enc) (C := Tryz.checked) (os := os) (X := fun w _ => laidMetH Tryz.prog laid8 w) false (laidWorld os) #[.string ⟨#[]⟩] 8 (laidWorld_os _)
      (World.shaped_of_ZipB (by kernel_rfl) (by kernel_rfl)) (by kernel_rfl) (by kernel_rfl) (by kernel_rfl) (laidWorld_met os _)) ?_
  intro W base args ds gs before hval0 hW _ _ hL _
  have hval : ∀ (j : Nat) t v, Tryz.f3.params[j]? = some t → args[j]? = some v → Value.okWide Tryz.prog W .any base t v := hval0
  have hW' := hW
  obtain ⟨p, q, hA0, hV, rfl, _, _⟩ := hW
  have hA : DataW.TrodAll enc Tryz.prog W 0 (fun _ => true) true Tryz.f3.params.toList args.toList ds p := hA0
  rw [Tryz.params3] at hA hval
  obtain ⟨v0, d0, rfl, rfl, h0⟩ := trodAll_one hA
  obtain ⟨rfl, rfl⟩ := trodVars_none hV
  obtain ⟨s, rfl, rfl, rfl, hs⟩ := open_string Tryz.underlying9 (hval 0 9 v0 rfl rfl) h0
  simp only [List.append_nil] at hW'
  refine (reads_all s W (env_of_laid hL)).mono fun e W' ⟨he, hb⟩ => ?_
  subst he
  exact ⟨_, rfl, _, _, _, [], [], [], hW', trodAll_mk1 (shut_bool Tryz.underlying4 _), trodAll_mk1 (shut_string Tryz.underlying9 hs), rfl, hb.frame _, fun h => by cases h⟩

theorem reads_said : Rows.ScriptReadsSaid :=
  OpenClaim.holds_of_wide 3 Tryz.f3 rfl rfl rfl rfl rfl rfl rfl ⟨rfl, rfl, rfl, rfl, rfl⟩ rfl rfl rfl rfl rfl (by kernel_rfl) Tryz.func3 (by kernel_rfl)
    (of_decide_eq_true (by kernel_rfl)) (by unfold Func.isWrapper; first | (rw [if_pos (by decide +kernel)]; kernel_rfl) | (rw [if_neg (by decide +kernel)]; exact ⟨rfl, rfl⟩))
    (fun os started H enc _ => reads_lifted os started H enc)
theorem reads_plain (f : FuncId) (fn : Func) (hf : Tryz.pinned.checked.prog.funcNamed "radome/radomelaw40.ScriptReads" = some f) (hfn : Tryz.pinned.checked.prog.funcs[f]? = some fn) :
    true = Tryz.pinned.checked.prog.looks [] ∧ ∀ (j : Nat) t, fn.params[j]? = some t → Tryz.pinned.checked.prog.wantsStandIn t = false := by
  obtain rfl : f = 3 := Option.some.inj ((show Tryz.prog.funcNamed "radome/radomelaw40.ScriptReads" = some 3 by kernel_rfl).symm.trans hf) |>.symm
  obtain rfl : fn = Tryz.f3 := (Option.some.inj (Tryz.func3.symm.trans hfn)).symm
  refine ⟨by kernel_rfl, fun j t ht => ?_⟩
  rw [Tryz.params3] at ht
  obtain rfl : t = 9 := by simpa using Array.mem_of_getElem? ht
  exact (show Tryz.prog.wantsStandIn 9 = false by kernel_rfl)
theorem reads_card : Rows.ScriptReadsCardSaid :=
  Claim7.holds_tied_plain_at .later [] _ _ _ _ reads_said (fun _ h => by cases h) (by kernel_rfl) (fun _ h => by cases h) scriptReads_row_tie rfl ⟨rfl, rfl⟩ (by kernel_rfl) rfl reads_plain (by kernel_rfl)
#print axioms reads_card
end Go.Proofs.YtfiacgkhkonilaaGreatDoor
