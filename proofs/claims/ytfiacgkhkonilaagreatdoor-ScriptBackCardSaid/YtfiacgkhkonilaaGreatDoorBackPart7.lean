/- ScriptBack: for every text and every note, on every schedule, the law answers true and leaves both as they were; the variables that the card lists are tied to the program's text. -/
import Derived.Test.YtfiacgkhkonilaaGreatDoorBackPart6
import Derived.Deep.QuietTactic
import Derived.BigQuiet
import Derived.IntWalk
import Derived.WalkKit
import Derived.SevenTiedAt
/- The walks of script.Verbs and of sure. -/
namespace Go.Proofs.YtfiacgkhkonilaaGreatDoor
open Go Go.RowKit Go.Proofs.YtfiacgkhkonilaaGreatDoorW.PrintWords Go.Proofs.YtfiacgkhkonilaaGreatDoorW.PrintLast Go.Proofs.YtfiacgkhkonilaaGreatDoorW.PrintMore

def verbList : List ByteArray := [⟨#[115, 101, 116]⟩, ⟨#[109, 111, 100, 101, 108]⟩, ⟨#[114, 111, 119]⟩, ⟨#[115, 116, 97, 114, 116]⟩, ⟨#[116, 114, 97, 99, 107, 115]⟩, ⟨#[99, 111, 117, 110, 116, 115]⟩, ⟨#[116, 105, 109, 101]⟩, ⟨#[115, 99, 97, 110]⟩, ⟨#[114, 97, 119]⟩, ⟨#[99, 111, 110, 102, 105, 103]⟩, ⟨#[116, 114, 97, 99, 107]⟩, ⟨#[99, 111, 117, 110, 116]⟩]
set_option maxRecDepth 100000 in
theorem verbs_call (w : World) : Calls Tryz.prog 11 #[] w fun e w' => e = .returned (.slice (some ⟨w.heap.size, 0, none⟩) 12 12) ∧ w' = w.alloc (.cells (verbList.map Value.string).toArray 9) := by
  go_enter Tryz.func11, Tryz.ntmps11
  go_wp2
  go_ret
  exact ⟨rfl, rfl⟩

def sureText : ByteArray := ⟨#[37, 32, 97, 32, 110, 111, 116, 101, 10, 115, 99, 97, 110, 32, 49, 48, 48, 32, 53, 48, 48, 48, 32, 57, 10]⟩
def sureCmd : Cmd := ⟨2, vScan, [], [100, 5000, 9], []⟩
theorem sure_parse : parseLines 0 (lines sureText.data.toList) [] = .ok [sureCmd] := by
  have e : lines sureText.data.toList = [[37, 32, 97, 32, 110, 111, 116, 101], [115, 99, 97, 110, 32, 49, 48, 48, 32, 53, 48, 48, 48, 32, 57], []] := by decide +kernel
  have n1 : numOf [49, 48, 48] = some 100 := by rw [numOf_ref]; decide +kernel
  have n2 : numOf [53, 48, 48, 48] = some 5000 := by rw [numOf_ref]; decide +kernel
  have n3 : numOf [57] = some 9 := by rw [numOf_ref]; decide +kernel
  have w1 : wordsOf [37, 32, 97, 32, 110, 111, 116, 101] = [] := by decide +kernel
  have w2 : wordsOf [115, 99, 97, 110, 32, 49, 48, 48, 32, 53, 48, 48, 48, 32, 57] = [vScan, [49, 48, 48], [53, 48, 48, 48], [57]] := by decide +kernel
  have w3 : wordsOf [] = [] := by decide +kernel
  have hn : needOf vScan = some ⟨0, false, 3, 129, false⟩ := rfl
  have hr : readCmd [vScan, [49, 48, 48], [53, 48, 48, 48], [57]] = some ⟨0, vScan, [], [100, 5000, 9], []⟩ := by
    simp only [readCmd, hn]
    simp [numsOf, n1, n2, n3, Need.right]
  rw [e, parseLines_app, w1]
  simp only []
  rw [parseLines_app, w2]
  simp only [hr]
  rw [parseLines_app, w3]
  rfl
/-- A command in a row that is read. -/
theorem cmd_at {w : World} {A : Option Addr} {n : Nat} {cs : List Cmd} (h : kdCmd.C w A n cs) (i : Nat) (c : Cmd) (hc : cs[i]? = some c) : ∃ ad A1 c1 A2 c2 A3 c3, A = some ad ∧
    (w.cell? (ad.add (i * 5)) = some (.int .i64 c.line) ∧ w.cell? (ad.add (i * 5 + 1)) = some (.string (mk c.verb)) ∧ w.cell? (ad.add (i * 5 + 2)) = some (.slice A1 (c.words.map mk).length c1) ∧ w.cell? (ad.add (i * 5 + 3)) = some (.slice A2 c.nums.length c2) ∧ w.cell? (ad.add (i * 5 + 4)) = some (.slice A3 c.bytes.length c3)) ∧
    (Kd.string.C w A1 (c.words.map mk).length (c.words.map mk) ∧ (c.words.map mk).length ≤ c1) ∧ ((Kd.int .i64).C w A2 c.nums.length c.nums ∧ c.nums.length ≤ c2) ∧ ((Kd.int .u8).C w A3 c.bytes.length c.bytes ∧ c.bytes.length ≤ c3) := by
  obtain ⟨h1, h2, h3⟩ := h
  have hlt : i < cs.length := (List.getElem?_eq_some_iff.1 hc).1
  obtain ⟨ad, hA, hall⟩ := h3 (by omega)
  obtain ⟨v, _, hk, hv⟩ := hall i c hc
  obtain ⟨a0, r0, rfl, ha0, b0, r1, rfl, hb0, d0, r2, rfl, ⟨A1, c1, rfl, hl1, hC1⟩, e0, f0, rfl, ⟨A2, c2, rfl, hl2, hC2⟩, ⟨A3, c3, rfl, hl3, hC3⟩⟩ := hk
  have ha0' : a0 = [.int .i64 c.line] := ha0
  have hb0' : b0 = [.string (mk c.verb)] := hb0
  subst ha0' hb0'
  exact ⟨ad, A1, c1, A2, c2, A3, c3, hA, ⟨hv 0 _ rfl, hv 1 _ rfl, hv 2 _ rfl, hv 3 _ rfl, hv 4 _ rfl⟩, ⟨hC1, hl1⟩, ⟨hC2, hl2⟩, ⟨hC3, hl3⟩⟩

theorem sure_call (w : World) (he : Env w) : Calls Tryz.prog 7 #[.string sureText] w fun e w' => Below w.heap.size w w' ∧ ∃ g c ad2 c2, e = .returned (.tuple #[.slice (some ⟨g, 0, none⟩) 1 c, .int .i64 0, .nilIface]) ∧ 1 ≤ c ∧ 3 ≤ c2 ∧
    w'.cell? ⟨g, 0, none⟩ = some (.int .i64 2) ∧ w'.cell? ⟨g, 1, none⟩ = some (.string ⟨#[115, 99, 97, 110]⟩) ∧ w'.cell? ⟨g, 3, none⟩ = some (.slice (some ad2) 3 c2) ∧ w'.cell? ⟨ad2.block, ad2.off + 1, none⟩ = some (.int .i64 5000) := by
  refine (parse_any sureText w he).mono ?_
  rintro e w' ⟨hb, h⟩
  rw [if_neg (by decide), sure_parse] at h
  obtain ⟨A, c, rfl, hc, hC, hg⟩ := h
  obtain ⟨g, rfl⟩ := hg (by decide)
  obtain ⟨ad, A1, c1, A2, c2, A3, c3, hA, ⟨f0, f1, f2, f3, f4⟩, _, ⟨hC2, hl2⟩, _⟩ := cmd_at hC 0 sureCmd rfl
  cases hA
  obtain ⟨ad2, e2, g1⟩ := Kd.at_int hC2 1 (by decide) (by decide)
  subst e2
  exact ⟨hb, g, c, ad2, c2, rfl, hc, hl2, f0, f1, f3, g1⟩
set_option maxRecDepth 100000 in
set_option maxHeartbeats 1000000 in
/-- sure holds. -/
theorem sure_any (w : World) (he : Env w) : Calls Tryz.prog 6 #[] w fun e w' => e = .returned (.bool true) ∧ Below w.heap.size w w' := by
  have HS := Lib.hid (sure_call w he)
  clear he
  go_enter Tryz.func6, Tryz.ntmps6
  go_wp2_with (first
    | (go_at_call 7; refine HS.out.mono ?_; rintro e w1 ⟨hb1, g, cp, ad2, c2, rfl, hcp, hc2, f0, f1, f3, g1⟩; have HB1 := Lib.hid hb1; clear hb1)
    | (go_at_call 11; refine (verbs_call _).mono ?_; rintro e w2 ⟨rfl, rfl⟩))
  go_ret
  exact ⟨rfl, HB1.out.trans ((Below.refl _ _).alloc (Nat.le_trans HB1.out.size (Nat.le_refl _)) _)⟩
end Go.Proofs.YtfiacgkhkonilaaGreatDoor

/- The walk of the law ScriptBack. -/
namespace Go.Proofs.YtfiacgkhkonilaaGreatDoor
open Go Go.RowKit Go.Proofs.YtfiacgkhkonilaaGreatDoorW.PrintWords Go.Proofs.YtfiacgkhkonilaaGreatDoorW.PrintLast Go.Proofs.YtfiacgkhkonilaaGreatDoorW.PrintMore

theorem parse_err : ∀ (ls : List B) (k : Nat) (acc : List Cmd) (j : Nat), parseLines k ls acc = .error j → j ≤ k + ls.length
  | [], k, acc, j, h => by cases h
  | l :: r, k, acc, j, h => by
    rw [parseLines_app] at h
    split at h
    · have := parse_err r _ _ _ h; simp; omega
    · split at h
      · cases h; simp
      · have := parse_err r _ _ _ h; simp; omega
theorem parse_line (m : Nat) : ∀ (ls : List B) (k : Nat) (acc cs : List Cmd), parseLines k ls acc = .ok cs → k + ls.length ≤ m → (∀ c ∈ acc, 0 ≤ c.line ∧ c.line ≤ m) → ∀ c ∈ cs, 0 ≤ c.line ∧ c.line ≤ (m : Int)
  | [], k, acc, cs, h, _, ha => by cases h; exact ha
  | l :: r, k, acc, cs, h, hm, ha => by
    rw [parseLines_app] at h
    simp only [List.length_cons] at hm
    split at h
    · exact parse_line m r _ _ _ h (by omega) ha
    · split at h
      · cases h
      · refine parse_line m r _ _ _ h (by omega) (fun c hc => ?_)
        rcases List.mem_append.1 hc with hc | hc
        · exact ha c hc
        · rw [List.mem_singleton.1 hc]
          exact ⟨by dsimp only; omega, by dsimp only; omega⟩
theorem res_bounds (s : ByteArray) (h : s.size ≤ 3000) : (resOf s).2.1 ≤ 3001 ∧ ∀ c ∈ (resOf s).1, 0 ≤ c.line ∧ c.line ≤ 3001 := by
  unfold resOf
  rw [if_neg (by omega)]
  have hl := (lines_size s.data.toList).1
  rw [← Lib.size_eq] at hl
  cases hp : parseLines 0 (lines s.data.toList) [] with
  | error j => exact ⟨by have := parse_err _ _ _ _ hp; dsimp only; omega, fun c hc => by cases hc⟩
  | ok cs => exact ⟨Nat.zero_le _, parse_line 3001 _ _ _ _ hp (by omega) (fun c hc => by cases hc)⟩
theorem text_good (c : Cmd) (hg : Good 3000 c) (A1 A2 A3 : Option Addr) (c1 c2 c3 : Nat) (W : World) (he : Env W) (h1 : Kd.string.C W A1 (cw c).length (cw c)) (k1 : (cw c).length ≤ c1) (h2 : (Kd.int .i64).C W A2 c.nums.length c.nums) (k2 : c.nums.length ≤ c2) (h3 : (Kd.int .u8).C W A3 c.bytes.length c.bytes) (k3 : c.bytes.length ≤ c3) :
    Calls Tryz.prog 14 #[.agg #[.int .i64 c.line, .string (cv c), .slice A1 (cw c).length c1, .slice A2 c.nums.length c2, .slice A3 c.bytes.length c3]] W fun e w' => e = .returned (.tuple #[.string (tl c), .nilIface]) ∧ Below W.heap.size W w' := by
  have hf := fits_good c hg
  obtain ⟨b1, b2⟩ := back_ok 3000 c hg
  refine (text_call c.line (cv c) A1 A2 A3 c1 c2 c3 (cw c) c.nums c.bytes W he h1 h2 h3 k1 k2 k3 hf.words hf.nums hf.bytes hf.range hf.octets hf.sizes ?_).mono fun e w' ⟨hb, h⟩ => ⟨?_, hb⟩
  · have h3 := congrArg ByteArray.size b2
    unfold textLine tl at h3
    rw [mk_size, mk_size] at h3
    have := hf.line
    omega
  · rw [h, if_pos b1, b2]
/-- A command of a row: its cells, and what Text says of it. -/
theorem text_at {W : World} {g n : Nat} {cs : List Cmd} (h : kdCmd.C W (some ⟨g, 0, none⟩) n cs) (i : Nat) (c : Cmd) (hc : cs[i]? = some c) (hg : Good 3000 c) :
    ∃ v2 v3 v4 : Value, W.cell? ⟨g, i * 5, none⟩ = some (.int .i64 c.line) ∧ W.cell? ⟨g, i * 5 + 1, none⟩ = some (.string (cv c)) ∧ W.cell? ⟨g, i * 5 + 2, none⟩ = some v2 ∧ W.cell? ⟨g, i * 5 + 3, none⟩ = some v3 ∧ W.cell? ⟨g, i * 5 + 4, none⟩ = some v4 ∧
      (v2.oneCell' = true ∧ v3.oneCell' = true ∧ v4.oneCell' = true) ∧
      ∀ W', Below W.heap.size W W' → Env W' → Calls Tryz.prog 14 #[.agg #[.int .i64 c.line, .string (cv c), v2, v3, v4]] W' fun e w' => e = .returned (.tuple #[.string (tl c), .nilIface]) ∧ Below W'.heap.size W' w' := by
  obtain ⟨ad, A1, c1, A2, c2, A3, c3, hA, ⟨f0, f1, f2, f3, f4⟩, hw, hn, hb⟩ := cmd_at h i c hc
  cases hA
  have ea : ∀ g n : Nat, Addr.add ⟨g, 0, none⟩ n = ⟨g, n, none⟩ := fun g n => by unfold Addr.add; split <;> simp_all
  rw [ea] at f0 f1 f2 f3 f4
  exact ⟨_, _, _, f0, f1, f2, f3, f4, ⟨rfl, rfl, rfl⟩, fun W' hW he => text_good c hg A1 A2 A3 c1 c2 c3 W' he (Kd.C_below hw.1 hW) hw.2 (Kd.C_below hn.1 hW) hn.2 (Kd.C_below hb.1 hW) hb.2⟩
theorem good_bump {c : Cmd} (h : Good 3000 c) (k : Int) : Good 3000 { c with line := k } := h

def NL (note : ByteArray) (k : Nat) : Prop := ∀ c ∈ note.data.toList.take k, c ≠ 10
set_option maxRecDepth 100000 in
set_option maxHeartbeats 1000000 in
theorem back_long (s note : ByteArray) (w : World) (he : Env w) (h : 3000 < s.size ∨ 100 < note.size) : Calls Tryz.prog 5 #[.string s, .string note] w fun e w' => e = .returned (.bool true) ∧ Below w.heap.size w w' := by
  have HS := Lib.hid (sure_any w he)
  clear he
  by_cases h1 : 3000 < s.size
  · have a1 : (3000 : Int) < (s.size : Int) := by omega
    clear h
    go_enter Tryz.func5, Tryz.ntmps5
    go_wp2_with (go_at_call 6; refine HS.out.mono ?_; rintro e w1 ⟨rfl, hb⟩)
    go_ret
    exact ⟨rfl, hb⟩
  · have a1 : ¬ (3000 : Int) < (s.size : Int) := by omega
    have a2 : (100 : Int) < (note.size : Int) := by omega
    clear h h1
    go_enter Tryz.func5, Tryz.ntmps5
    go_wp2_with (go_at_call 6; refine HS.out.mono ?_; rintro e w1 ⟨rfl, hb⟩)
    go_ret
    exact ⟨rfl, hb⟩
theorem NL_succ (note : ByteArray) (k : Nat) (h : k < note.size) (hn : NL note k) (hc : (((note[k]).toNat : Int) == 10) = false) : NL note (k + 1) := by
  intro c hm
  have hl : k < note.data.toList.length := by rw [← Lib.size_eq]; exact h
  rw [List.take_succ_eq_append_getElem hl] at hm
  rcases List.mem_append.1 hm with hm | hm
  · exact hn c hm
  · intro e
    rw [List.mem_singleton.1 hm] at e
    have e2 : note[k] = 10 := e
    rw [e2] at hc
    revert hc; decide
set_option maxRecDepth 100000 in
set_option maxHeartbeats 4000000 in
theorem back_main (s note : ByteArray) (w : World) (he : Env w) (h1 : s.size ≤ 3000) (h2 : note.size ≤ 100) : Calls Tryz.prog 5 #[.string s, .string note] w fun e w' => e = .returned (.bool true) ∧ Below w.heap.size w w' := by
  have HS := Lib.hid (sure_any w he)
  have HE := Lib.hid he
  clear he
  have a1 : ¬ (3000 : Int) < (s.size : Int) := by omega
  have a2 : ¬ (100 : Int) < (note.size : Int) := by omega
  go_enter Tryz.func5, Tryz.ntmps5
  go_wp2
  go_loop [5] (fun i => ∃ k : Nat, k ≤ note.size ∧ i = .int .i64 k ∧ NL note k) (fun i => note.size - (intOf i).toNat)
  case atStart => exact ⟨0, Nat.zero_le _, rfl, fun c hc => by cases hc⟩
  case round =>
    obtain ⟨k, hk, rfl, hnl⟩ := hrel
    have HNL := Lib.hid hnl
    clear hnl
    by_cases hkn : k < note.size
    · have hkn2 : (k : Int) < (note.size : Int) := by omega
      go_wp2_with (go_at_call 6; refine HS.out.mono ?_; rintro e w1 ⟨rfl, hb⟩)
      · go_ret
        exact ⟨rfl, hb⟩
      · have hc : (((note[k]).toNat : Int) == 10) = false := by assumption
        go_round
        case rel => exact ⟨k + 1, by omega, by go_num, NL_succ note k hkn HNL.out hc⟩
        case measure => simp [intOf]; omega
    · obtain rfl : k = note.size := by omega
      have hkn2 : ¬ (note.size : Int) < (note.size : Int) := by omega
      have hnn : ∀ c ∈ note.data.toList, c ≠ 10 := fun c hc => HNL.out c (by rw [List.take_of_length_le (by rw [← Lib.size_eq]; exact Nat.le_refl _)]; exact hc)
      obtain ⟨r1, r2, r3⟩ := pre_res note s hnn h1 h2
      have hgd := good_res s h1
      obtain ⟨hat, hln⟩ := res_bounds s h1
      have hp1 := parse_uni s w HE.out
      have hp2 := fun W (h : Env W) => parse_uni (preText note s) W h
      rw [r1, r2] at hp2
      have hnum := fun W (h : Env W) => num_any (resOf s).2.2 W h
      have HP1 := Lib.hid hp1
      have HP2 := Lib.hid hp2
      have HNU := Lib.hid hnum
      have HR3 := Lib.hid r3
      have HGD := Lib.hid hgd
      have HLN := Lib.hid hln
      clear hp1 hp2 hnum r1 r2 r3 hgd hln hnn hkn
      generalize (resOf (preText note s)).2.1 = at2 at *
      generalize resOf s = r at *
      obtain ⟨cs, at1, en⟩ := r
      dsimp only at hat
      have hev : ∃ ev, errVal en = ev ∧ ((ev = .nilIface ∧ en = 0) ∨ (ev = .iface 47 (.int .i64 en) ∧ en ≠ 0)) := by
        refine ⟨_, rfl, ?_⟩
        by_cases h : en = 0
        · exact .inl ⟨if_pos h, h⟩
        · exact .inr ⟨if_neg h, h⟩
      obtain ⟨ev, hev1, hev2⟩ := hev
      dsimp only at HP1 HP2 HNU HGD HLN HR3
      rw [hev1] at HP1 HP2 HNU
      have hcase : (ev = .nilIface) ∨ (ev = .iface 47 (.int .i64 en) ∧ at2 = at1 + 1) := by
        rcases hev2 with ⟨h, _⟩ | ⟨h, h0⟩
        · exact .inl h
        · exact .inr ⟨h, HR3.out h0⟩
      clear hev1 hev2 HR3
      rcases hcase with rfl | ⟨rfl, rfl⟩
      all_goals
        go_wp2_with (go_at_call 7; refine Hid.out ?_)
        refine Lib.hid ?_
        refine HP1.out.mono ?_
        rintro e w1 ⟨hb1, A, c1, rfl, hc1, hC1, hg1⟩
        dsimp only
        have HB1 := Lib.hid hb1
        have HC1 := Lib.hid hC1
        have HG1 := Lib.hid hg1
        have HE1 := Lib.hid (HE.out.below hb1)
        clear hb1 hC1 hg1
        go_wp2_with (go_at_call 7; refine Hid.out ?_)
        refine Lib.hid ?_
        refine (HP2.out w1 HE1.out).mono ?_
        rintro e w2 ⟨hb2, A2, c2, he2, hc2, hC2, hg2⟩
        rw [List.length_map] at he2 hc2 hC2 hg2
        subst he2
        dsimp only
        have HB2 := Lib.hid hb2
        have HC2 := Lib.hid hC2
        have HG2 := Lib.hid hg2
        have HE2 := Lib.hid (HE1.out.below hb2)
        clear hb2 hC2 hg2
        go_wp2_with (go_at_call 9; refine Hid.out ?_)
        refine Lib.hid ?_
        refine (HNU.out w2 HE2.out).mono ?_
        rintro e w3 ⟨rfl, hb3⟩
        have HB3 := Lib.hid hb3
        have HE3 := Lib.hid (HE2.out.below hb3)
        clear hb3
        go_wp2_with (go_at_call 9; refine Hid.out ?_)
        refine Lib.hid ?_
        refine (HNU.out w3 HE3.out).mono ?_
        rintro e w4 ⟨rfl, hb4⟩
        have hw4 : Below w.heap.size w w4 := below2 (below3 HB1.out HB2.out HB3.out) hb4
        have hC1 := Kd.C_below (Kd.C_below (Kd.C_below HC1.out HB2.out) HB3.out) hb4
        have hC2 := Kd.C_below (Kd.C_below HC2.out HB3.out) hb4
        have hlen : cs.length ≤ 9223372036854775807 := hC1.2.1
        have HW4 := Lib.hid hw4
        have HC14 := Lib.hid hC1
        have HC24 := Lib.hid hC2
        clear hb4 hw4 hC1 hC2
        go_wp2
        go_loopw [12] (fun i wr => RL cs.length w4 i wr) (fun i _ => cs.length - (intOf i).toNat)
        case atStart => exact ⟨0, Nat.zero_le _, rfl, Below.refl _ _⟩
        case round =>
          obtain ⟨k, hk, rfl, hbk⟩ := hrel
          have HBK := Lib.hid hbk
          by_cases hkn : k < cs.length
          · have hkn2 : (k : Int) < (cs.length : Int) := by omega
            obtain ⟨g, rfl⟩ := HG1.out (by omega)
            obtain ⟨g', rfl⟩ := HG2.out (by omega)
            have hck : cs[k]? = some (cs[k]'hkn) := List.getElem?_eq_getElem hkn
            have hcm : (cs.map bump)[k]? = some (bump (cs[k]'hkn)) := by rw [List.getElem?_map, hck]; rfl
            have hgood := HGD.out _ (List.getElem_mem hkn)
            obtain ⟨hl0, hl1⟩ := HLN.out _ (List.getElem_mem hkn)
            have hCr := Kd.C_below HC14.out hbk
            have hCm := Kd.C_below HC24.out hbk
            generalize cs[k]'hkn = c at *
            obtain ⟨v2, v3, v4, f0, f1, f2, f3, f4, _, htx⟩ := text_at hCr k c hck hgood
            have hwe : Env wr := HE.out.below (below2 HW4.out hbk)
            have hback := fun W (h : Env W) => parse_uni (backText (tl c)) W h
            rw [back_res c hgood] at hback
            have hts : (tl c).size ≤ 3000 := by unfold tl; rw [mk_size]; exact (fits_good c hgood).line
            have HCK := Lib.hid hck
            have HCMK := Lib.hid hcm
            have HGOOD := Lib.hid hgood
            have HCR := Lib.hid hCr
            have HCM := Lib.hid hCm
            have HTX := Lib.hid (htx wr (Below.refl _ _) hwe)
            have HWE := Lib.hid hwe
            have HBA := Lib.hid hback
            clear hck hcm hgood hCr hCm htx hwe hback hbk
            go_wp2_with (go_at_call 14; refine Hid.out ?_)
            refine Lib.hid ?_
            refine HTX.out.mono ?_
            rintro e w5 ⟨rfl, hb5⟩
            have HB5 := Lib.hid hb5
            have HE5 := Lib.hid (HWE.out.below hb5)
            clear hb5 f0 f1 f2 f3 f4
            go_wp2_with (go_at_call 7; refine Hid.out ?_)
            refine Lib.hid ?_
            refine (HBA.out w5 HE5.out).mono ?_
            rintro e w6 ⟨hb6, A3, c3, rfl, hc3, hC3, hg3⟩
            obtain ⟨g3, rfl⟩ := hg3 (Nat.lt_succ_self 0)
            have hC3' : kdCmd.C w6 (some ⟨g3, 0, none⟩) 1 [{ c with line := 2 }] := hC3
            have hw6 : Below wr.heap.size wr w6 := below2 HB5.out hb6
            obtain ⟨n2, n3, n4, p0, p1, p2, p3, p4, _, htn⟩ := text_at hC3' 0 { c with line := 2 } rfl HGOOD.out
            obtain ⟨_, _, _, x0, _, _, _, _, _, _⟩ := text_at (Kd.C_below HCR.out hw6) k c HCK.out HGOOD.out
            obtain ⟨m2, m3, m4, y0, _, _, _, _, _, _⟩ := text_at (Kd.C_below HCM.out hw6) k (bump c) HCMK.out HGOOD.out
            have hmt : ∀ W, Below wr.heap.size wr W → ∃ v2 v3 v4 : Value, W.cell? ⟨g', k * 5, none⟩ = some (.int .i64 (c.line + 1)) ∧ W.cell? ⟨g', k * 5 + 1, none⟩ = some (.string (cv c)) ∧ W.cell? ⟨g', k * 5 + 2, none⟩ = some v2 ∧ W.cell? ⟨g', k * 5 + 3, none⟩ = some v3 ∧ W.cell? ⟨g', k * 5 + 4, none⟩ = some v4 ∧
                ∀ W', Below W.heap.size W W' → Env W' → Calls Tryz.prog 14 #[.agg #[.int .i64 (c.line + 1), .string (cv c), v2, v3, v4]] W' fun e w' => e = .returned (.tuple #[.string (tl c), .nilIface]) ∧ Below W'.heap.size W' w' := fun W hW => by
              obtain ⟨a2, a3, a4, z0, z1, z2, z3, z4, _, hz⟩ := text_at (Kd.C_below HCM.out hW) k (bump c) HCMK.out HGOOD.out
              exact ⟨a2, a3, a4, z0, z1, z2, z3, z4, hz⟩
            have hz0 : w6.cell? ⟨g', k * 5, none⟩ = some (.int .i64 (c.line + 1)) := y0
            have hp0 : w6.cell? ⟨g3, 0, none⟩ = some (.int .i64 2) := p0
            have hp1 : w6.cell? ⟨g3, 1, none⟩ = some (.string (cv c)) := p1
            have hp2 : w6.cell? ⟨g3, 2, none⟩ = some n2 := p2
            have hp3 : w6.cell? ⟨g3, 3, none⟩ = some n3 := p3
            have hp4 : w6.cell? ⟨g3, 4, none⟩ = some n4 := p4
            have htn' : ∀ W', Below w6.heap.size w6 W' → Env W' → Calls Tryz.prog 14 #[.agg #[.int .i64 2, .string (cv c), n2, n3, n4]] W' fun e w' => e = .returned (.tuple #[.string (tl c), .nilIface]) ∧ Below W'.heap.size W' w' := htn
            have HTN := Lib.hid htn'
            have HMT := Lib.hid hmt
            have HW6 := Lib.hid hw6
            have HE6 := Lib.hid (HE5.out.below hb6)
            have i1 : IntKind.i64.wrap (c.line + 1) = c.line + 1 := IntWalk.i64_in _ (by omega)
            have i2 : errVal 0 = .nilIface := rfl
            clear hb6 hC3 hC3' hg3 hw6 htn htn' hmt p0 p1 p2 p3 p4 y0
            generalize c.line = ln at *
            generalize cv c = vv at *
            generalize tl c = tt at *
            dsimp only
            rw [i2]
            clear i2
            go_wp2
            go_quiet (fail)
            clear i1 x0 hz0
            go_wp2_with (go_at_call 14; refine Hid.out ?_)
            refine Lib.hid ?_
            refine (HTN.out _ (pw_below_drewN (Below.refl _ _) _) (HE6.out.below (pw_below_drewN (Below.refl _ _) _))).mono ?_
            rintro e w7 ⟨rfl, hb7⟩
            have hb67 : Below w6.heap.size w6 w7 := (pw_below_drewN (Below.refl _ _) _).trans hb7
            have HB67 := Lib.hid hb67
            have HE7 := Lib.hid (HE6.out.below hb67)
            have HW7 := Lib.hid (below2 HW6.out hb67)
            obtain ⟨a2, a3, a4, z0, z1, z2, z3, z4, hz⟩ := HMT.out w7 HW7.out
            have HZ := Lib.hid (hz w7 (Below.refl _ _) HE7.out)
            clear hb7 hb67 hz hp0 hp1 hp2 hp3 hp4
            go_wp2_with (go_at_call 14; refine Hid.out ?_)
            refine Lib.hid ?_
            refine HZ.out.mono ?_
            rintro e w8 ⟨rfl, hb8⟩
            have HW8 := Lib.hid (below2 HBK.out (below2 HW7.out hb8))
            clear hb8 z0 z1 z2 z3 z4
            go_wp2
            go_roundw
            case rel => exact ⟨k + 1, by omega, by go_num, HW8.out⟩
            case measure => simp [intOf]; omega
          · have hkn2 : ¬ (k : Int) < (cs.length : Int) := by omega
            have hall := below2 HW4.out hbk
            have hsu := sure_any wr (HE.out.below hall)
            have HALL := Lib.hid hall
            have HSU := Lib.hid hsu
            clear hbk hkn hall hsu
            go_wp2_with (go_at_call 6; refine HSU.out.mono ?_; rintro e w9 ⟨rfl, hb9⟩)
            go_ret
            exact ⟨rfl, below2 HALL.out hb9⟩
theorem back_all (s note : ByteArray) (w : World) (he : Env w) : Calls Tryz.prog 5 #[.string s, .string note] w fun e w' => e = .returned (.bool true) ∧ Below w.heap.size w w' := by
  by_cases h : 3000 < s.size ∨ 100 < note.size
  · exact back_long s note w he h
  · exact back_main s note w he (by omega) (by omega)
end Go.Proofs.YtfiacgkhkonilaaGreatDoor

/- ScriptBack: for every text and every note, on every schedule, the law answers true and leaves both as they were; the variables that the card lists are tied to the program's text. -/
namespace Go.Proofs.YtfiacgkhkonilaaGreatDoor
open Go.ChangeShapes Go.WideShapes Go.ChangeAt Go.RowKit Go.ChangeMaps
set_option maxRecDepth 100000 in
theorem back_lifted (os : Os) (started : os.Started) (H : Type) (enc : TypeId × Value → H) :
    ReturnsInHanded {} Tryz.checked os 5 .any (fun w args => (Rows.scriptBackSpec.pre enc Tryz.prog Tryz.f5 [] false w args ∧ laidMetH Tryz.prog laid8 w) ∧ sizedMet enc Tryz.prog Tryz.f5 (OpenSpec.ofChange Rows.scriptBackSpec) false w args)
      (Rows.scriptBackSpec.post enc Tryz.prog Tryz.f5 false true false false) := by
  refine returnsInHanded_of_change_and (C := Tryz.checked) (X := fun w _ => laidMetH Tryz.prog laid8 w) (fun _ _ _ hh h => h.of_heap hh) own started (by kernel_rfl) Tryz.func5
    (ChangeSpec.witness_shaped (enc := enc) (C := Tryz.checked) (os := os) (X := fun w _ => laidMetH Tryz.prog laid8 w) false (laidWorld os) #[.string ⟨#[]⟩, .string ⟨#[]⟩] 8 (laidWorld_os _)
      (World.shaped_of_ZipB (by kernel_rfl) (by kernel_rfl)) (by kernel_rfl) (by kernel_rfl) (by kernel_rfl) (laidWorld_met os _)) ?_
  intro W base args ds gs before hval0 hW _ _ hL _
  have hval : ∀ (j : Nat) t v, Tryz.f5.params[j]? = some t → args[j]? = some v → Value.okWide Tryz.prog W .any base t v := hval0
  have hW' := hW
  obtain ⟨p, q, hA0, hV, rfl, _, _⟩ := hW
  have hA : DataW.TrodAll enc Tryz.prog W 0 (fun _ => true) true Tryz.f5.params.toList args.toList ds p := hA0
  rw [Tryz.params5] at hA hval
  obtain ⟨v0, vs0, d0, ds0, p0, q0, hargs, rfl, rfl, h0, r0⟩ := trodAll_cons hA
  obtain ⟨v1, vs1, d1, ds1, p1, q1, hargs1, rfl, rfl, h1, r1⟩ := trodAll_cons r0
  obtain ⟨rfl, rfl, rfl⟩ := trodAll_nil r1
  subst hargs1
  obtain rfl : args = #[v0, v1] := by cases args; simp_all
  obtain ⟨rfl, rfl⟩ := trodVars_none hV
  obtain ⟨s, rfl, rfl, rfl, hs⟩ := open_string Tryz.underlying9 (hval 0 9 v0 rfl rfl) h0
  obtain ⟨note, rfl, rfl, rfl, hn⟩ := open_string Tryz.underlying9 (hval 1 9 v1 rfl rfl) h1
  refine (back_all s note W (env_of_laid hL)).mono fun e W' ⟨he, hb⟩ => ?_
  subst he
  exact ⟨_, rfl, _, _, _, [], _, [], hW', trodAll_mk1 (shut_bool Tryz.underlying4 _), (trodAll_cons_mk (shut_string Tryz.underlying9 hs) (trodAll_cons_mk (shut_string Tryz.underlying9 hn) trodAll_mk0)), rfl, hb.frame _, fun h => by cases h⟩

theorem back_said : Rows.ScriptBackSaid :=
  OpenClaim.holds_of_wide 5 Tryz.f5 rfl rfl rfl rfl rfl rfl rfl ⟨rfl, rfl, rfl, rfl, rfl⟩ rfl rfl rfl rfl rfl (by kernel_rfl) Tryz.func5 (by kernel_rfl)
    (of_decide_eq_true (by kernel_rfl)) (by unfold Func.isWrapper; first | (rw [if_pos (by decide +kernel)]; kernel_rfl) | (rw [if_neg (by decide +kernel)]; exact ⟨rfl, rfl⟩))
    (fun os started H enc _ => back_lifted os started H enc)
theorem back_plain (f : FuncId) (fn : Func) (hf : Tryz.pinned.checked.prog.funcNamed "radome/radomelaw40.ScriptBack" = some f) (hfn : Tryz.pinned.checked.prog.funcs[f]? = some fn) :
    true = Tryz.pinned.checked.prog.looks [] ∧ ∀ (j : Nat) t, fn.params[j]? = some t → Tryz.pinned.checked.prog.wantsStandIn t = false := by
  obtain rfl : f = 5 := Option.some.inj ((show Tryz.prog.funcNamed "radome/radomelaw40.ScriptBack" = some 5 by kernel_rfl).symm.trans hf) |>.symm
  obtain rfl : fn = Tryz.f5 := (Option.some.inj (Tryz.func5.symm.trans hfn)).symm
  refine ⟨by kernel_rfl, fun j t ht => ?_⟩
  rw [Tryz.params5] at ht
  obtain rfl : t = 9 := by simpa using Array.mem_of_getElem? ht
  exact (show Tryz.prog.wantsStandIn 9 = false by kernel_rfl)
theorem back_card : Rows.ScriptBackCardSaid :=
  Claim7.holds_tied_plain_at .later [] _ _ _ _ back_said (fun _ h => by cases h) (by kernel_rfl) (fun _ h => by cases h) scriptBack_row_tie rfl ⟨rfl, rfl⟩ (by kernel_rfl) rfl back_plain (by kernel_rfl)
#print axioms back_card
end Go.Proofs.YtfiacgkhkonilaaGreatDoor
