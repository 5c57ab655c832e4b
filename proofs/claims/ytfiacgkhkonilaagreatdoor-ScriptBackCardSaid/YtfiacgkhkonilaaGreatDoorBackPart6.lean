/- Part 6 of a proof: Text14, Line17, TextLaw, BackLaw, As, Num, Uni, BackRes -/
import Derived.Test.YtfiacgkhkonilaaGreatDoorBackPart5
import Derived.Deep.QuietTactic
import Derived.BigQuiet
import Derived.WalkKit
import Derived.LaidEql
import Derived.Stop.Asserts
import Derived.RowKitTokens
/- The walk of script.Text: a command as a line, or an error. -/
namespace Go.Proofs.YtfiacgkhkonilaaGreatDoor
open Go Go.RowKit Go.Proofs.YtfiacgkhkonilaaGreatDoorW.PrintWords Go.Proofs.YtfiacgkhkonilaaGreatDoorW.PrintLast Go.Proofs.YtfiacgkhkonilaaGreatDoorW.PrintMore

def wordRest (ws : List ByteArray) (ns bs : List Int) : List ByteArray := (ws ++ ns.map fun n => mk (Lib.itoa n)) ++ if bs = [] then [] else [mk (hexW bs)]
theorem wordVals_cons (v : ByteArray) (ws : List ByteArray) (ns bs : List Int) : wordVals v ws ns bs = v :: wordRest ws ns bs := rfl
theorem wordRest_len (ws : List ByteArray) (ns bs : List Int) : (wordRest ws ns bs).length ≤ ws.length + ns.length + 1 := by
  unfold wordRest
  rw [List.length_append, List.length_append, List.length_map]
  split <;> simp
theorem itoa_len (n : Int) (h0 : -9223372036854775808 ≤ n) (h1 : n ≤ 9223372036854775807) : (Lib.itoa n).length ≤ 20 := by
  unfold Lib.itoa
  split
  · have := dec_len n.natAbs (by omega)
    simp; omega
  · have := dec_len n.toNat (by omega)
    omega
theorem wordRest_size (ws : List ByteArray) (ns bs : List Int) (hs : ∀ x ∈ ws, x.size ≤ 1000000) (hn : ∀ n ∈ ns, -9223372036854775808 ≤ n ∧ n ≤ 9223372036854775807) (hb : bs.length ≤ 1000000) : ∀ x ∈ wordRest ws ns bs, x.size ≤ 140737488351232 := by
  intro x hx
  unfold wordRest at hx
  rcases List.mem_append.1 hx with hx | hx
  · rcases List.mem_append.1 hx with hx | hx
    · have := hs x hx; omega
    · obtain ⟨n, hn', rfl⟩ := List.mem_map.1 hx
      have := itoa_len n (hn n hn').1 (hn n hn').2
      rw [mk_size]; omega
  · split at hx
    · cases hx
    · rw [List.mem_singleton.1 hx, mk_size, hexW_len]; omega
/-- Are the words of a command read as it? -/
def sameParts (d : Cmd) (v : ByteArray) (ws : List ByteArray) (ns bs : List Int) : Bool := decide (mk d.verb = v) && (decide (d.words.map mk = ws) && (decide (d.nums = ns) && decide (d.bytes = bs)))
def textOk (v : ByteArray) (ws : List ByteArray) (ns bs : List Int) : Bool := match readCmd ((wordVals v ws ns bs).map (·.data.toList)) with
  | none => false
  | some d => sameParts d v ws ns bs
def textLine (v : ByteArray) (ws : List ByteArray) (ns bs : List Int) : ByteArray := mk (Lib.join ((wordVals v ws ns bs).map (·.data.toList)) [32])
def TextPost (w : World) (v : ByteArray) (ws : List ByteArray) (ns bs : List Int) (e : Ending) (w' : World) : Prop := Below w.heap.size w w' ∧
  e = .returned (if textOk v ws ns bs = true then .tuple #[.string (textLine v ws ns bs), .nilIface] else .tuple #[.string ⟨#[]⟩, .iface 47 (.int .i64 1)])

theorem cells_of_C {w : World} {g n : Nat} {xs : List ByteArray} (h : Kd.string.C w (some ⟨g, 0, none⟩) n xs) : ∀ (j : Nat) x, xs[j]? = some x → w.cell? ⟨g, 0 + j, none⟩ = some (.string x) := by
  intro j x hx
  have hl : xs.length = n := h.1
  have hj : j < xs.length := (List.getElem?_eq_some_iff.1 hx).1
  obtain ⟨ad, e1, h1⟩ := Kd.at_string h j (by omega) (by omega)
  cases e1
  have ea : Addr.add ⟨g, 0, none⟩ j = ⟨g, j, none⟩ := by unfold Addr.add; split <;> simp_all
  rw [Int.toNat_natCast, ea] at h1
  rw [Nat.zero_add, h1]
  simp [rdOf, List.getD, hx]
set_option maxRecDepth 100000 in
set_option maxHeartbeats 2000000 in
theorem text_call (l : Int) (v : ByteArray) (A1 A2 A3 : Option Addr) (c1 c2 c3 : Nat) (ws : List ByteArray) (ns bs : List Int) (w : World) (he : Env w)
    (hC1 : Kd.string.C w A1 ws.length ws) (hC2 : (Kd.int .i64).C w A2 ns.length ns) (hC3 : (Kd.int .u8).C w A3 bs.length bs) (hl1 : ws.length ≤ c1) (hl2 : ns.length ≤ c2) (hl3 : bs.length ≤ c3)
    (hs1 : ws.length ≤ 1000000) (hs2 : ns.length ≤ 1000000) (hs3 : bs.length ≤ 1000000) (hn : ∀ n ∈ ns, -9223372036854775808 ≤ n ∧ n ≤ 9223372036854775807) (hb : ∀ b ∈ bs, 0 ≤ b ∧ b < 256)
    (hsz : ∀ x ∈ ws, x.size ≤ 1000000) (hlen : (Lib.join ((wordVals v ws ns bs).map (·.data.toList)) [32]).length ≤ 140737488355328) :
    Calls Tryz.prog 14 #[.agg #[.int .i64 l, .string v, .slice A1 ws.length c1, .slice A2 ns.length c2, .slice A3 bs.length c3]] w (TextPost w v ws ns bs) := by
  obtain ⟨o, ho⟩ : ∃ o : Obj, o = .cells #[.int .i64 l, .string v, .slice A1 ws.length c1, .slice A2 ns.length c2, .slice A3 bs.length c3] 37 := ⟨_, rfl⟩
  have hb0 : Below w.heap.size w (w.alloc o) := (Below.refl w.heap.size w).alloc (Nat.le_refl _) _
  have hwc := words_call l v A1 A2 A3 c1 c2 c3 ws ns bs (w.alloc o) (he.below hb0) (Kd.C_below hC1 hb0) (Kd.C_below hC2 hb0) (Kd.C_below hC3 hb0) hl1 hl2 hl3 hs1 hs2 hs3 hn hb
  have hbx := blk_new w o
  have hb00 := hb0
  have HWC := Lib.hid hwc
  have HE := Lib.hid he
  have H1 := Lib.hid hC1
  have H2 := Lib.hid hC2
  have H3 := Lib.hid hC3
  have HBX := Lib.hid hbx
  have HB0 := Lib.hid hb0
  have HSZ := Lib.hid hsz
  have HLEN := Lib.hid hlen
  have HN := Lib.hid hn
  have HB := Lib.hid hb
  subst ho
  clear he hC1 hC2 hC3 hn hb hwc hbx hb0 hb00 hsz hlen
  go_enter Tryz.func14, Tryz.ntmps14
  go_wp2_with (go_at_call 27; refine HWC.out.mono ?_; rintro e w1 ⟨vv, rfl, hR, hb1⟩; have HR := Lib.hid hR; have HB1 := Lib.hid hb1; clear hR hb1)
  have hR := HR.out
  rw [wordVals_cons] at hR
  obtain ⟨g, cap, rfl, _, hg, _⟩ := Kd.R_form hR (by simp)
  obtain ⟨_, hcap, hCw⟩ := Kd.R_reads' hR
  have hw1 : Below w.heap.size w w1 := HB0.out.trans (HB1.out.mono HB0.out.size)
  have hcmd := command_any g 0 cap v (wordRest ws ns bs) w1 hCw hcap (by have := wordRest_len ws ns bs; omega) (wordRest_size ws ns bs HSZ.out HN.out hs3) (HE.out.below hw1)
  have hbox := (HB1.out.block w.heap.size (by simp)).trans HBX.out
  have HCW := Lib.hid hCw
  have HW1 := Lib.hid hw1
  have HBX1 := Lib.hid hbox
  have HLN := Lib.hid (wordRest_len ws ns bs)
  rw [← wordVals_cons] at hcmd
  have hto : textOk v ws ns bs = match readCmd ((wordVals v ws ns bs).map (·.data.toList)) with
    | none => false
    | some d => sameParts d v ws ns bs := rfl
  have hcl : (v :: wordRest ws ns bs).length = (wordVals v ws ns bs).length := rfl
  generalize readCmd ((wordVals v ws ns bs).map (·.data.toList)) = ro at *
  clear hR hCw hw1 hbox
  refine hcmd.mono ?_
  rcases ro with _ | d
  · have HTO := Lib.hid hto
    clear hto hcmd
    rintro e w2 ⟨hb2, l', vb', A1', n1', c1', A2', n2', c2', A3', n3', c3', rfl⟩
    have HB2 := Lib.hid hb2
    clear hb2
    go_wp2
    go_ret2
    refine ⟨?_, by rw [HTO.out]; rfl⟩
    exact (HW1.out.trans (HB2.out.mono HW1.out.size)).alloc (Nat.le_trans HW1.out.size HB2.out.size) _
  · have hto2 : textOk v ws ns bs = sameParts d v ws ns bs := hto
    clear hto hcmd
    rintro e w2 ⟨hb2, A1', n1', c1', A2', n2', c2', A3', n3', c3', rfl, hR1, hR2, hR3⟩
    obtain ⟨e1, k1, hD1⟩ := Kd.R_reads' hR1
    obtain ⟨e2, k2, hD2⟩ := Kd.R_reads' hR2
    obtain ⟨e3, k3, hD3⟩ := Kd.R_reads' hR3
    unfold sameParts at hto2
    clear hR1 hR2 hR3
    generalize d.words.map mk = dws at *
    generalize d.nums = dns at *
    generalize d.bytes = dbs at *
    generalize mk d.verb = dv at *
    subst e1 e2 e3
    have hw2 : Below w.heap.size w w2 := HW1.out.trans (hb2.mono HW1.out.size)
    have hq1 : ∀ W, Below w2.heap.size w2 W → Calls Tryz.prog 28 #[.slice A1' dws.length c1', .slice A1 ws.length c1] W fun e w' => e = .returned (.bool (decide (dws = ws))) ∧ Below W.heap.size W w' := fun W hW =>
      equal_strings A1' A1 c1' c1 dws ws W (Kd.C_below hD1 hW) k1 (Kd.C_below (Kd.C_below H1.out hw2) hW) hl1 (by omega)
    have hq2 : ∀ W, Below w2.heap.size w2 W → Calls Tryz.prog 29 #[.slice A2' dns.length c2', .slice A2 ns.length c2] W fun e w' => e = .returned (.bool (decide (dns = ns))) ∧ Below W.heap.size W w' := fun W hW =>
      equal_ints A2' A2 c2' c2 dns ns W (Kd.C_below hD2 hW) k2 (Kd.C_below (Kd.C_below H2.out hw2) hW) hl2 (by omega)
    have hq3 : ∀ W, Below w2.heap.size w2 W → Calls Tryz.prog 30 #[.slice A3' dbs.length c3', .slice A3 bs.length c3] W fun e w' => e = .returned (.bool (decide (dbs = bs))) ∧ Below W.heap.size W w' := fun W hW =>
      equal_bytes A3' A3 c3' c3 dbs bs W (Kd.C_below hD3 hW) k3 (Kd.C_below (Kd.C_below H3.out hw2) hW) hl3 (by omega)
    have hbx2 := (hb2.block w.heap.size (blk_lt HBX1.out)).trans HBX1.out
    have hlt2 : w.heap.size < w2.heap.size := blk_lt hbx2
    have q1 : w2.cell? ⟨w.heap.size, 1, none⟩ = some (.string v) := blk_cell hbx2 1
    have q2 : w2.cell? ⟨w.heap.size, 2, none⟩ = some (.slice A1 ws.length c1) := blk_cell hbx2 2
    have HBX2 := Lib.hid hbx2
    have HTO := Lib.hid hto2
    have HB2 := Lib.hid hb2
    have HW2 := Lib.hid hw2
    have HQ1 := Lib.hid hq1
    have HQ2 := Lib.hid hq2
    have HQ3 := Lib.hid hq3
    clear hto2 hb2 hw2 hq1 hq2 hq3 hD1 hD2 hD3 hbx2
    by_cases hv : dv = v
    · subst hv
      have hw5 : Below w2.heap.size w2 (w2.alloc (.cells #[.int .i64 0, .string dv, .slice A1' dws.length c1', .slice A2' dns.length c2', .slice A3' dbs.length c3'] 37)) := (Below.refl _ _).alloc (Nat.le_refl _) _
      have hn5 : (w2.alloc (.cells #[.int .i64 0, .string dv, .slice A1' dws.length c1', .slice A2' dns.length c2', .slice A3' dbs.length c3'] 37)).heap[w2.heap.size]? = some (.cells #[.int .i64 0, .string dv, .slice A1' dws.length c1', .slice A2' dns.length c2', .slice A3' dbs.length c3'] 37) := blk_new _ _
      have ho5 := blk_alloc HBX2.out (.cells #[.int .i64 0, .string dv, .slice A1' dws.length c1', .slice A2' dns.length c2', .slice A3' dbs.length c3'] 37)
      have hs5 : (w2.alloc (.cells #[.int .i64 0, .string dv, .slice A1' dws.length c1', .slice A2' dns.length c2', .slice A3' dbs.length c3'] 37)).heap.size = w2.heap.size + 1 := World.size_alloc _ _
      have HW5 := Lib.hid hw5
      have HN5 := Lib.hid hn5
      have HO5 := Lib.hid ho5
      have HS5 := Lib.hid hs5
      clear hw5 hn5 ho5 hs5
      generalize ge2 : decide (dws = ws) = b2 at *
      generalize ge3 : decide (dns = ns) = b3 at *
      generalize ge4 : decide (dbs = bs) = b4 at *
      clear ge2 ge3 ge4
      cases b2
      · go_wp2_with (go_at_call 28; refine (HQ1.out _ HW5.out).mono ?_; rintro e w3 ⟨rfl, hb3⟩)
        go_ret2
        refine ⟨(HW2.out.trans (HW5.out.mono HW2.out.size)).trans (hb3.mono (by have := HS5.out; omega)), by rw [HTO.out]; simp⟩
      cases b3
      · go_wp2_with (first
          | (go_at_call 28; refine (HQ1.out _ HW5.out).mono ?_; rintro e w3 ⟨rfl, hb3⟩; have hn3 := (hb3.block w2.heap.size (by have := HS5.out; omega)).trans HN5.out; have ho3 := (hb3.block w.heap.size (by have := HS5.out; omega)).trans HO5.out; have x3 : w3.cell? ⟨w2.heap.size, 3, none⟩ = some (.slice A2' dns.length c2') := blk_cell hn3 3; have y3 : w3.cell? ⟨w.heap.size, 3, none⟩ = some (.slice A2 ns.length c2) := blk_cell ho3 3; have hw3 := HW5.out.trans (hb3.mono (by have := HS5.out; omega)); have HN3 := Lib.hid hn3; have HO3 := Lib.hid ho3; have HW3 := Lib.hid hw3; clear hb3 hn3 ho3 hw3)
          | (go_at_call 29; refine (HQ2.out _ HW3.out).mono ?_; rintro e w4 ⟨rfl, hb4⟩; have hlt3 : w2.heap.size < w3.heap.size := blk_lt HN3.out; have hn4 := (hb4.block w2.heap.size hlt3).trans HN3.out; have ho4 := (hb4.block w.heap.size (by omega)).trans HO3.out; have x4 : w4.cell? ⟨w2.heap.size, 4, none⟩ = some (.slice A3' dbs.length c3') := blk_cell hn4 4; have y4 : w4.cell? ⟨w.heap.size, 4, none⟩ = some (.slice A3 bs.length c3) := blk_cell ho4 4; have hw4 := HW3.out.trans (hb4.mono (by omega)); have HW4 := Lib.hid hw4; clear hb4 hn4 ho4 hw4))
        go_ret2
        refine ⟨HW2.out.trans (HW4.out.mono HW2.out.size), by rw [HTO.out]; simp⟩
      cases b4
      · go_wp2_with (first
          | (go_at_call 28; refine (HQ1.out _ HW5.out).mono ?_; rintro e w3 ⟨rfl, hb3⟩; have hn3 := (hb3.block w2.heap.size (by have := HS5.out; omega)).trans HN5.out; have ho3 := (hb3.block w.heap.size (by have := HS5.out; omega)).trans HO5.out; have x3 : w3.cell? ⟨w2.heap.size, 3, none⟩ = some (.slice A2' dns.length c2') := blk_cell hn3 3; have y3 : w3.cell? ⟨w.heap.size, 3, none⟩ = some (.slice A2 ns.length c2) := blk_cell ho3 3; have hw3 := HW5.out.trans (hb3.mono (by have := HS5.out; omega)); have HN3 := Lib.hid hn3; have HO3 := Lib.hid ho3; have HW3 := Lib.hid hw3; clear hb3 hn3 ho3 hw3)
          | (go_at_call 29; refine (HQ2.out _ HW3.out).mono ?_; rintro e w4 ⟨rfl, hb4⟩; have hlt3 : w2.heap.size < w3.heap.size := blk_lt HN3.out; have hn4 := (hb4.block w2.heap.size hlt3).trans HN3.out; have ho4 := (hb4.block w.heap.size (by omega)).trans HO3.out; have x4 : w4.cell? ⟨w2.heap.size, 4, none⟩ = some (.slice A3' dbs.length c3') := blk_cell hn4 4; have y4 : w4.cell? ⟨w.heap.size, 4, none⟩ = some (.slice A3 bs.length c3) := blk_cell ho4 4; have hw4 := HW3.out.trans (hb4.mono (by omega)); have HW4 := Lib.hid hw4; clear hb4 hn4 ho4 hw4)
          | (go_at_call 30; refine (HQ3.out _ HW4.out).mono ?_; rintro e w5 ⟨rfl, hb5⟩; have hw5 := HW4.out.trans (hb5.mono HW4.out.size); have HW6 := Lib.hid hw5; clear hb5 hw5))
        go_ret2
        refine ⟨HW2.out.trans (HW6.out.mono HW2.out.size), by rw [HTO.out]; simp⟩
      · go_wp2_with (first
          | (go_at_call 28; refine (HQ1.out _ HW5.out).mono ?_; rintro e w3 ⟨rfl, hb3⟩; have hn3 := (hb3.block w2.heap.size (by have := HS5.out; omega)).trans HN5.out; have ho3 := (hb3.block w.heap.size (by have := HS5.out; omega)).trans HO5.out; have x3 : w3.cell? ⟨w2.heap.size, 3, none⟩ = some (.slice A2' dns.length c2') := blk_cell hn3 3; have y3 : w3.cell? ⟨w.heap.size, 3, none⟩ = some (.slice A2 ns.length c2) := blk_cell ho3 3; have hw3 := HW5.out.trans (hb3.mono (by have := HS5.out; omega)); have HN3 := Lib.hid hn3; have HO3 := Lib.hid ho3; have HW3 := Lib.hid hw3; clear hb3 hn3 ho3 hw3)
          | (go_at_call 29; refine (HQ2.out _ HW3.out).mono ?_; rintro e w4 ⟨rfl, hb4⟩; have hlt3 : w2.heap.size < w3.heap.size := blk_lt HN3.out; have hn4 := (hb4.block w2.heap.size hlt3).trans HN3.out; have ho4 := (hb4.block w.heap.size (by omega)).trans HO3.out; have x4 : w4.cell? ⟨w2.heap.size, 4, none⟩ = some (.slice A3' dbs.length c3') := blk_cell hn4 4; have y4 : w4.cell? ⟨w.heap.size, 4, none⟩ = some (.slice A3 bs.length c3) := blk_cell ho4 4; have hw4 := HW3.out.trans (hb4.mono (by omega)); have HW4 := Lib.hid hw4; clear hb4 hn4 ho4 hw4)
          | (go_at_call 30; refine (HQ3.out _ HW4.out).mono ?_; rintro e w5 ⟨rfl, hb5⟩; have hw5 := HW4.out.trans (hb5.mono HW4.out.size); have HW6 := Lib.hid hw5; clear hb5 hw5))
        have hcw := Kd.C_below HCW.out (HB2.out.trans (HW6.out.mono HB2.out.size))
        have hj := Tryz.strings_Join g 0 cap (wordVals dv ws ns bs) ⟨#[32]⟩ w5 (cells_of_C hcw) (Nat.lt_of_lt_of_le hg (Nat.le_trans HB2.out.size HW6.out.size)) (by have := HLN.out; show (dv :: wordRest ws ns bs).length ≤ _; rw [List.length_cons]; omega) hcap HLEN.out
        have HJ := Lib.hid hj
        clear hcw hj
        go_wp2_with (go_at_call 31; refine HJ.out.mono ?_; rintro e w6 ⟨rfl, hb6⟩)
        go_ret2
        have hww := HW2.out.trans (HW6.out.mono HW2.out.size)
        refine ⟨hww.trans (hb6.mono hww.size), by rw [HTO.out]; simp [textLine, mk]⟩
    · have HV := Lib.hid hv
      have hv' : ¬ dv.toList = v.toList := fun h => hv (by rw [Lib.toList_data, Lib.toList_data] at h; rw [of_mk h, mk_of])
      clear hv
      go_wp2
      go_ret2
      refine ⟨(HW2.out).alloc (by omega) _, by rw [HTO.out, decide_eq_false HV.out]; rfl⟩
end Go.Proofs.YtfiacgkhkonilaaGreatDoor

/- The walk of the document's Line. -/
namespace Go.Proofs.YtfiacgkhkonilaaGreatDoor
open Go Go.RowKit Go.Proofs.YtfiacgkhkonilaaGreatDoorW.PrintWords Go.Proofs.YtfiacgkhkonilaaGreatDoorW.PrintLast Go.Proofs.YtfiacgkhkonilaaGreatDoorW.PrintMore

def strs (ws : List ByteArray) : List B := ws.map (·.data.toList)
/-- The line so far: its words; its numbers; its bytes. -/
def LA (v : ByteArray) (ws : List ByteArray) : B := v.data.toList ++ sp (strs ws)
def LN (v : ByteArray) (ws : List ByteArray) (ns : List Int) : B := LA v ws ++ sp (ns.map Lib.itoa)
def LB (v : ByteArray) (ws : List ByteArray) (ns bs : List Int) : B := LN v ws ns ++ (32 :: hexW bs)
def lineVal (v : ByteArray) (ws : List ByteArray) (ns bs : List Int) : B := if bs = [] then LN v ws ns else LB v ws ns bs
theorem LA_snoc (v : ByteArray) (ws : List ByteArray) (x : ByteArray) : mk (LA v ws) ++ ⟨#[32]⟩ ++ x = mk (LA v (ws ++ [x])) := by
  have hx : x = mk x.data.toList := (mk_of x).symm
  rw [show (⟨#[32]⟩ : ByteArray) = mk [32] from rfl, app_mk]
  conv => lhs; rw [hx]
  rw [app_mk]
  congr 1
  simp [LA, strs, sp_app, sp_cons, List.append_assoc]
  rfl
theorem LN_snoc (v : ByteArray) (ws : List ByteArray) (ns : List Int) (n : Int) : mk (LN v ws ns) ++ ⟨#[32]⟩ ++ mk (Lib.itoa n) = mk (LN v ws (ns ++ [n])) := by
  rw [show (⟨#[32]⟩ : ByteArray) = mk [32] from rfl, app_mk, app_mk]
  congr 1
  simp [LN, sp_app, sp_cons, List.append_assoc]
  rfl
theorem LB_nil (v : ByteArray) (ws : List ByteArray) (ns : List Int) : mk (LN v ws ns) ++ ⟨#[32]⟩ = mk (LB v ws ns []) := by
  rw [show (⟨#[32]⟩ : ByteArray) = mk [32] from rfl, app_mk]
  rfl
theorem LB_snoc (v : ByteArray) (ws : List ByteArray) (ns bs : List Int) (x : Int) : mk (LB v ws ns bs) ++ mk [hexa.getD (x.toNat / 16) 0] ++ mk [hexa.getD (x.toNat % 16) 0] = mk (LB v ws ns (bs ++ [x])) := by
  rw [app_mk, app_mk]
  congr 1
  simp [LB, hexW_snoc, List.append_assoc]
theorem sp_len (l : List B) (m : Nat) (h : ∀ x ∈ l, x.length ≤ m) : (sp l).length ≤ l.length * (m + 1) := by
  induction l with
  | nil => simp [sp, Lib.joinTail]
  | cons a r ih =>
    rw [sp_cons, List.length_cons, List.length_append, List.length_cons]
    have := h a (by simp)
    have := ih (fun x hx => h x (by simp [hx]))
    rw [Nat.succ_mul]; omega
theorem LA_size (v : ByteArray) (ws : List ByteArray) (h0 : v.size ≤ 1000000) (h1 : ws.length ≤ 1000000) (h2 : ∀ x ∈ ws, x.size ≤ 1000000) (k : Nat) : (mk (LA v (ws.take k))).size ≤ 2000000000000 := by
  have h := sp_len (strs (ws.take k)) 1000000 (fun x hx => by
    obtain ⟨y, hy, rfl⟩ := List.mem_map.1 hx
    have := h2 y (List.mem_of_mem_take hy)
    rwa [Lib.size_eq] at this)
  rw [mk_size, LA, List.length_append, ← Lib.size_eq]
  have hl : (strs (ws.take k)).length ≤ 1000000 := by unfold strs; rw [List.length_map, List.length_take]; omega
  have := Nat.mul_le_mul_right (1000000 + 1) hl
  omega
theorem LN_size (v : ByteArray) (ws : List ByteArray) (ns : List Int) (h0 : v.size ≤ 1000000) (h1 : ws.length ≤ 1000000) (h2 : ∀ x ∈ ws, x.size ≤ 1000000) (h3 : ns.length ≤ 1000000) (h4 : ∀ n ∈ ns, -9223372036854775808 ≤ n ∧ n ≤ 9223372036854775807) (k : Nat) :
    (mk (LN v ws (ns.take k))).size ≤ 3000000000000 := by
  have h := sp_len ((ns.take k).map Lib.itoa) 20 (fun x hx => by
    obtain ⟨y, hy, rfl⟩ := List.mem_map.1 hx
    exact itoa_len y (h4 y (List.mem_of_mem_take hy)).1 (h4 y (List.mem_of_mem_take hy)).2)
  have ha := LA_size v ws h0 h1 h2 ws.length
  rw [List.take_length, mk_size] at ha
  rw [mk_size, LN, List.length_append]
  have hl : ((ns.take k).map Lib.itoa).length ≤ 1000000 := by rw [List.length_map, List.length_take]; omega
  have := Nat.mul_le_mul_right (20 + 1) hl
  omega
theorem LB_size (v : ByteArray) (ws : List ByteArray) (ns bs : List Int) (h0 : v.size ≤ 1000000) (h1 : ws.length ≤ 1000000) (h2 : ∀ x ∈ ws, x.size ≤ 1000000) (h3 : ns.length ≤ 1000000) (h4 : ∀ n ∈ ns, -9223372036854775808 ≤ n ∧ n ≤ 9223372036854775807) (h5 : bs.length ≤ 1000000) (k : Nat) :
    (mk (LB v ws ns (bs.take k))).size ≤ 4000000000000 := by
  have ha := LN_size v ws ns h0 h1 h2 h3 h4 ns.length
  rw [List.take_length, mk_size] at ha
  rw [mk_size, LB, List.length_append, List.length_cons, hexW_len, List.length_take]
  omega
theorem digits_call (n : Int) (h0 : -9223372036854775808 ≤ n) (h1 : n ≤ 9223372036854775807) (w : World) : Calls Tryz.prog 33 #[.int .i64 n] w fun e w' => e = .returned (.string (mk (Lib.itoa n))) ∧ Below w.heap.size w w' :=
  (PDigits.radomeref40_Digits.calls 24 n _ w (digits_ref n h0 h1 0)).mono fun _ _ ⟨h, hd⟩ => ⟨h, drawn_below hd⟩
/-- The loops' relations: the text so far, how far, and that all that was there stays. -/
def LW1 (w0 : World) (v : ByteArray) (ws : List ByteArray) (s i : Value) (wr : World) : Prop := ∃ k : Nat, k ≤ ws.length ∧ i = .int .i64 k ∧ s = .string (mk (LA v (ws.take k))) ∧ Below w0.heap.size w0 wr
def LW2 (w0 : World) (v : ByteArray) (ws : List ByteArray) (ns : List Int) (s i : Value) (wr : World) : Prop := ∃ k : Nat, k ≤ ns.length ∧ i = .int .i64 k ∧ s = .string (mk (LN v ws (ns.take k))) ∧ Below w0.heap.size w0 wr
def LW3 (w0 : World) (v : ByteArray) (ws : List ByteArray) (ns bs : List Int) (s i : Value) (wr : World) : Prop := ∃ k : Nat, k ≤ bs.length ∧ i = .int .i64 k ∧ s = .string (mk (LB v ws ns (bs.take k))) ∧ Below w0.heap.size w0 wr
theorem mem_rd (ns : List Int) (k : Nat) (h : k < ns.length) : rd ns k ∈ ns := by
  unfold rd
  rw [Int.toNat_natCast, List.getD_eq_getElem?_getD, List.getElem?_eq_getElem h, Option.getD_some]
  exact List.getElem_mem _
theorem take_rd (ns : List Int) (k : Nat) (h : k < ns.length) : ns.take (k + 1) = ns.take k ++ [rd ns k] := by
  rw [List.take_succ_eq_append_getElem h]
  unfold rd
  rw [Int.toNat_natCast, List.getD_eq_getElem?_getD, List.getElem?_eq_getElem h, Option.getD_some]
theorem mem_rdS (ws : List ByteArray) (k : Nat) (h : k < ws.length) : rdOf ByteArray.empty ws k ∈ ws := by
  unfold rdOf
  rw [Int.toNat_natCast, List.getD_eq_getElem?_getD, List.getElem?_eq_getElem h, Option.getD_some]
  exact List.getElem_mem _
theorem take_rdS (ws : List ByteArray) (k : Nat) (h : k < ws.length) : ws.take (k + 1) = ws.take k ++ [rdOf ByteArray.empty ws k] := by
  rw [List.take_succ_eq_append_getElem h]
  unfold rdOf
  rw [Int.toNat_natCast, List.getD_eq_getElem?_getD, List.getElem?_eq_getElem h, Option.getD_some]
theorem hex_ext (i : Nat) (h : i < 16) : (⟨#[48, 49, 50, 51, 52, 53, 54, 55, 56, 57, 97, 98, 99, 100, 101, 102]⟩ : ByteArray).extract i (i + 1) = mk [hexa.getD i 0] := by
  have : ∀ i, i < 16 → (⟨#[48, 49, 50, 51, 52, 53, 54, 55, 56, 57, 97, 98, 99, 100, 101, 102]⟩ : ByteArray).extract i (i + 1) = mk [hexa.getD i 0] := by decide +kernel
  exact this i h
theorem below_drewN {b : Nat} {w : World} (_h : b ≤ w.heap.size) (n : Nat) : Below b w (w.drewN n) := pw_below_drewN (Below.refl _ _) n
set_option maxRecDepth 100000 in
set_option maxHeartbeats 2000000 in
theorem line_call (l : Int) (v : ByteArray) (A1 A2 A3 : Option Addr) (c1 c2 c3 : Nat) (ws : List ByteArray) (ns bs : List Int) (w : World)
    (hC1 : Kd.string.C w A1 ws.length ws) (hC2 : (Kd.int .i64).C w A2 ns.length ns) (hC3 : (Kd.int .u8).C w A3 bs.length bs)
    (hs0 : v.size ≤ 1000000) (hs1 : ws.length ≤ 1000000) (hs2 : ns.length ≤ 1000000) (hs3 : bs.length ≤ 1000000) (hn : ∀ n ∈ ns, -9223372036854775808 ≤ n ∧ n ≤ 9223372036854775807) (hb : ∀ b ∈ bs, 0 ≤ b ∧ b < 256)
    (hsz : ∀ x ∈ ws, x.size ≤ 1000000) :
    Calls Tryz.prog 17 #[.agg #[.int .i64 l, .string v, .slice A1 ws.length c1, .slice A2 ns.length c2, .slice A3 bs.length c3]] w fun e w' => e = .returned (.string (mk (lineVal v ws ns bs))) ∧ Below w.heap.size w w' := by
  obtain ⟨o, ho⟩ : ∃ o : Obj, o = .cells #[.int .i64 l, .string v, .slice A1 ws.length c1, .slice A2 ns.length c2, .slice A3 bs.length c3] 38 := ⟨_, rfl⟩
  have hb0 : Below w.heap.size w (w.alloc o) := (Below.refl w.heap.size w).alloc (Nat.le_refl _) _
  have hbx := blk_new w o
  have H1 := Lib.hid (Kd.C_below hC1 hb0)
  have H2 := Lib.hid (Kd.C_below hC2 hb0)
  have H3 := Lib.hid (Kd.C_below hC3 hb0)
  have HN := Lib.hid hn
  have HB := Lib.hid hb
  have HSZ := Lib.hid hsz
  have HBX := Lib.hid hbx
  have HB0 := Lib.hid hb0
  have HO := Lib.hid ho
  have hz0 : (w.alloc o).heap.size = w.heap.size + 1 := World.size_alloc _ _
  have HZ0 := Lib.hid hz0
  clear hC1 hC2 hC3 hn hb hsz hbx hb0 hz0
  subst ho
  go_enter Tryz.func17, Tryz.ntmps17
  go_wp2
  generalize hgw : w.alloc (.cells #[.int .i64 l, .string v, .slice A1 ws.length c1, .slice A2 ns.length c2, .slice A3 bs.length c3] 38) = w0 at *
  clear hgw
  go_loopw [3, 4] (fun s i wr => LW1 w0 v ws s i wr) (fun _ i _ => ws.length - (intOf i).toNat)
  case atStart => exact ⟨0, Nat.zero_le _, rfl, by simp [LA, strs, sp, Lib.joinTail, mk_of], Below.refl _ _⟩
  case round =>
    obtain ⟨k, hk, rfl, rfl, hbw⟩ := hrel
    have hbx := (hbw.block w.heap.size (by have := HZ0.out; omega)).trans HBX.out
    have q2 : wr.cell? ⟨w.heap.size, 2, none⟩ = some (.slice A1 ws.length c1) := blk_cell hbx 2
    have HBX2 := Lib.hid hbx
    clear hbx
    by_cases hkn : k < ws.length
    · have hC := Kd.C_below H1.out hbw
      obtain ⟨ad, rfl, hcell⟩ := Kd.at_string hC k (by omega) (by omega)
      rw [Int.toNat_natCast] at hcell
      have hxs := HSZ.out _ (mem_rdS ws k hkn)
      have hnx : mk (LA v (ws.take k)) ++ ⟨#[32]⟩ ++ rdOf ByteArray.empty ws k = mk (LA v (ws.take (k + 1))) := by rw [take_rdS ws k hkn]; exact LA_snoc _ _ _
      have hsb := LA_size v ws hs0 hs1 HSZ.out k
      have HNX := Lib.hid hnx
      have hkn2 : (k : Int) < (ws.length : Int) := by omega
      have HBW := Lib.hid hbw
      clear hbw hC hnx
      generalize rdOf ByteArray.empty ws k = x at *
      generalize mk (LA v (ws.take k)) = s at *
      go_wp2
      go_roundw
      case rel => exact ⟨k + 1, by omega, by go_num, by rw [← HNX.out], HBW.out⟩
      case measure => simp [intOf]; omega
    · obtain rfl : k = ws.length := by omega
      have hkn2 : ¬ (ws.length : Int) < (ws.length : Int) := by omega
      have HBW := Lib.hid hbw
      clear hkn hbw
      go_wp2
      go_loopw [3, 5] (fun s i wr => LW2 w0 v ws ns s i wr) (fun _ i _ => ns.length - (intOf i).toNat)
      case atStart => exact ⟨0, Nat.zero_le _, rfl, by simp [LN, sp, Lib.joinTail], HBW.out⟩
      case round =>
        obtain ⟨k, hk, rfl, rfl, hbw⟩ := hrel
        have hbx := (hbw.block w.heap.size (by have := HZ0.out; omega)).trans HBX.out
        have q3 : wr.cell? ⟨w.heap.size, 3, none⟩ = some (.slice A2 ns.length c2) := blk_cell hbx 3
        have q4 : wr.cell? ⟨w.heap.size, 4, none⟩ = some (.slice A3 bs.length c3) := blk_cell hbx 4
        clear hbx
        by_cases hkn : k < ns.length
        · have hC := Kd.C_below H2.out hbw
          obtain ⟨ad, rfl, hcell⟩ := Kd.at_int hC k (by omega) (by omega)
          rw [Int.toNat_natCast] at hcell
          have hnn := HN.out _ (mem_rd ns k hkn)
          have hnx : mk (LN v ws (ns.take k)) ++ ⟨#[32]⟩ ++ mk (Lib.itoa (rd ns k)) = mk (LN v ws (ns.take (k + 1))) := by rw [take_rd ns k hkn]; exact LN_snoc _ _ _ _
          have hsb := LN_size v ws ns hs0 hs1 HSZ.out hs2 HN.out k
          have hit : (mk (Lib.itoa (rd ns k))).size ≤ 20 := by rw [mk_size]; exact itoa_len _ hnn.1 hnn.2
          have HDC := Lib.hid (digits_call (rd ns k) hnn.1 hnn.2)
          have HNX := Lib.hid hnx
          have hkn2 : (k : Int) < (ns.length : Int) := by omega
          have HBW2 := Lib.hid hbw
          clear hbw hC hnx hnn
          generalize mk (Lib.itoa (rd ns k)) = x at *
          generalize rd ns k = y at *
          generalize mk (LN v ws (ns.take k)) = s at *
          go_wp2_with (go_at_call 33; refine (HDC.out _).mono ?_; rintro e w2 ⟨rfl, hb2⟩)
          go_roundw
          case rel => exact ⟨k + 1, by omega, by go_num, by rw [← HNX.out], HBW2.out.trans (hb2.mono HBW2.out.size)⟩
          case measure => simp [intOf]; omega
        · obtain rfl : k = ns.length := by omega
          have hkn2 : ¬ (ns.length : Int) < (ns.length : Int) := by omega
          have hsb := LN_size v ws ns hs0 hs1 HSZ.out hs2 HN.out ns.length
          rw [List.take_length] at hsb ⊢
          by_cases hbs : bs = []
          · have h0 : ¬ (0 : Int) < (bs.length : Int) := by rw [hbs]; simp
            have HBS := Lib.hid hbs
            have HBW2 := Lib.hid hbw
            clear hbs hkn hbw
            go_wp2
            go_ret
            exact ⟨by rw [lineVal, if_pos HBS.out]; rfl, HB0.out.trans (HBW2.out.mono (by have := HZ0.out; omega))⟩
          · have h0 : (0 : Int) < (bs.length : Int) := by
              cases bs with
              | nil => exact absurd rfl hbs
              | cons b r => simp
            have h0n : decide (0 < bs.length) = true := decide_eq_true (by omega)
            have HBS := Lib.hid hbs
            have HBW2 := Lib.hid hbw
            have hst : mk (LN v ws ns) ++ ⟨#[32]⟩ = mk (LB v ws ns (bs.take 0)) := LB_nil v ws ns
            have HST := Lib.hid hst
            clear hbs hkn hbw hst
            generalize mk (LN v ws ns) = s0 at *
            go_wp2
            rw [HST.out]
            go_loopw [3, 6] (fun s i wr => LW3 w0 v ws ns bs s i wr) (fun _ i _ => bs.length - (intOf i).toNat)
            case atStart => exact ⟨0, Nat.zero_le _, rfl, rfl, HBW2.out⟩
            case round =>
              obtain ⟨k, hk, rfl, rfl, hbw⟩ := hrel
              have hbx := (hbw.block w.heap.size (by have := HZ0.out; omega)).trans HBX.out
              have q4 : wr.cell? ⟨w.heap.size, 4, none⟩ = some (.slice A3 bs.length c3) := blk_cell hbx 4
              clear hbx
              by_cases hkn : k < bs.length
              · have hC := Kd.C_below H3.out hbw
                obtain ⟨ad, rfl, hcell⟩ := Kd.at_int hC k (by omega) (by omega)
                rw [Int.toNat_natCast] at hcell
                obtain ⟨x0, x1⟩ := HB.out _ (mem_rd bs k hkn)
                have hnx := LB_snoc v ws ns (bs.take k) (rd bs k)
                rw [← take_rd bs k hkn] at hnx
                have hsb := LB_size v ws ns bs hs0 hs1 HSZ.out hs2 HN.out hs3 k
                have HNX := Lib.hid hnx
                have hkn2 : (k : Int) < (bs.length : Int) := by omega
                have HBW3 := Lib.hid hbw
                clear hbw hC hnx
                generalize rd bs k = x at *
                generalize mk (LB v ws ns (bs.take k)) = s at *
                go_wp2
                go_quiet (fail)
                go_wp2
                go_roundw
                case rel =>
                  refine ⟨k + 1, by omega, by go_num, ?_, HBW3.out.trans (below_drewN HBW3.out.size _)⟩
                  rw [show (x / 16).toNat = x.toNat / 16 by omega, show (x / 16 + 1).toNat = x.toNat / 16 + 1 by omega, show (x % 16).toNat = x.toNat % 16 by omega, show (x % 16 + 1).toNat = x.toNat % 16 + 1 by omega,
                    hex_ext _ (by omega), hex_ext _ (by omega), HNX.out]
                case measure => simp [intOf]; omega
              · obtain rfl : k = bs.length := by omega
                have hkn2 : ¬ (bs.length : Int) < (bs.length : Int) := by omega
                have HBW3 := Lib.hid hbw
                rw [List.take_length]
                clear hkn hbw
                go_wp2
                go_ret
                exact ⟨by rw [lineVal, if_neg HBS.out]; rfl, HB0.out.trans (HBW3.out.mono (by have := HZ0.out; omega))⟩
end Go.Proofs.YtfiacgkhkonilaaGreatDoor

/- Whether words are a command, twice told; a line's words are those that it was made of. No walk. -/
namespace Go.Proofs.YtfiacgkhkonilaaGreatDoor
open Go Go.RowKit

/-- A word that stays whole in a line. -/
def clean (w : B) : Prop := w ≠ [] ∧ ∀ c ∈ w, isBlank c = false ∧ c ≠ 37 ∧ c ≠ 10
theorem clean_name (w : B) (h : isName w = true) : clean w := by
  simp only [isName, Bool.and_eq_true, decide_eq_true_eq, List.all_eq_true] at h
  refine ⟨fun e => by rw [e] at h; simp at h, fun c hc => ?_⟩
  have := h.2.2 c hc
  have e37 : (37 : UInt8).toNat = 37 := rfl
  have e10 : (10 : UInt8).toNat = 10 := rfl
  refine ⟨?_, fun e => by subst e; omega, fun e => by subst e; omega⟩
  simp only [isBlank, Bool.or_eq_false_iff, beq_eq_false_iff_ne]
  have e32 : (32 : UInt8).toNat = 32 := rfl
  have e9 : (9 : UInt8).toNat = 9 := rfl
  have e13 : (13 : UInt8).toNat = 13 := rfl
  exact ⟨⟨fun e => by subst e; omega, fun e => by subst e; omega⟩, fun e => by subst e; omega⟩
theorem clean_chars (w : B) (h0 : w ≠ []) (h : ∀ c ∈ w, 45 ≤ c.toNat) : clean w := by
  refine ⟨h0, fun c hc => ?_⟩
  have := h c hc
  have e37 : (37 : UInt8).toNat = 37 := rfl
  have e10 : (10 : UInt8).toNat = 10 := rfl
  refine ⟨?_, fun e => by subst e; omega, fun e => by subst e; omega⟩
  simp only [isBlank, Bool.or_eq_false_iff, beq_eq_false_iff_ne]
  have e32 : (32 : UInt8).toNat = 32 := rfl
  have e9 : (9 : UInt8).toNat = 9 := rfl
  have e13 : (13 : UInt8).toNat = 13 := rfl
  exact ⟨⟨fun e => by subst e; omega, fun e => by subst e; omega⟩, fun e => by subst e; omega⟩
theorem clean_itoa (n : Int) : clean (Lib.itoa n) := by
  have hd : ∀ u : Nat, ∀ c ∈ Lib.decDigits u, 45 ≤ c.toNat := fun u c hc => by
    have := (dec_facts u).1
    unfold allDig at this
    rw [List.all_eq_true] at this
    have := this c hc
    simp only [isDig, Bool.and_eq_true, decide_eq_true_eq] at this
    omega
  unfold Lib.itoa
  split
  · refine clean_chars _ (by simp) (fun c hc => ?_)
    rcases List.mem_cons.1 hc with rfl | hc
    · exact Nat.le_refl 45
    · exact hd _ c hc
  · exact clean_chars _ (dec_facts _).2.2.1 (hd _)
theorem hexa_chars (i : Nat) : i < 16 → 45 ≤ (hexa.getD i 0).toNat := by
  intro h
  have : ∀ i, i < 16 → 45 ≤ (hexa.getD i 0).toNat := by decide
  exact this i h
theorem clean_hexW (bs : List Int) (h : bs ≠ []) (hb : ∀ b ∈ bs, 0 ≤ b ∧ b < 256) : clean (hexW bs) := by
  refine clean_chars _ (fun e => ?_) (fun c hc => ?_)
  · have := hexW_len bs
    rw [e, List.length_nil] at this
    exact h (List.eq_nil_of_length_eq_zero (by omega))
  unfold hexW at hc
  obtain ⟨x, hx, hc⟩ := List.mem_flatMap.1 hc
  have := hb x hx
  rcases List.mem_cons.1 hc with rfl | hc
  · exact hexa_chars _ (by omega)
  · rw [List.mem_singleton.1 hc]; exact hexa_chars _ (by omega)

theorem noteCut_clean (l : B) (h : ∀ c ∈ l, c ≠ 37) : l.takeWhile (· ≠ 37) = l := by
  induction l with
  | nil => rfl
  | cons a r ih =>
    rw [List.takeWhile_cons, if_pos (by simpa using h a (by simp)), ih (fun c hc => h c (by simp [hc]))]
theorem fields_sp : ∀ (l : List B) (cur : B), cur ≠ [] → (∀ x ∈ l, clean x) → ∀ t : B, (∀ c ∈ t, isBlank c = true) → fieldsGo cur (sp l ++ t) = cur :: l
  | [], cur, hc, _, t, ht => by
    have e : sp [] = [] := rfl
    rw [e, List.nil_append]
    cases t with
    | nil => simp [fieldsGo, hc]
    | cons a r =>
      rw [fieldsGo, if_pos (ht a (by simp)), if_neg hc]
      have : ∀ r : B, (∀ c ∈ r, isBlank c = true) → fieldsGo [] r = [] := by
        intro r
        induction r with
        | nil => intro _; simp [fieldsGo]
        | cons b r ih => intro h; rw [fieldsGo, if_pos (h b (by simp)), if_pos rfl]; exact ih (fun c hc => h c (by simp [hc]))
      rw [this r (fun c hc => ht c (by simp [hc]))]
  | x :: l, cur, hc, h, t, ht => by
    have hx := h x (by simp)
    rw [sp_cons, List.cons_append, List.cons_append, fieldsGo, if_pos (by decide), if_neg hc, List.append_assoc, fieldsGo_run x [] _ (fun c hc => (hx.2 c hc).1), List.nil_append, fields_sp l x hx.1 (fun y hy => h y (by simp [hy])) t ht]
theorem fields_line (v : B) (l : List B) (hv : clean v) (h : ∀ x ∈ l, clean x) (t : B) (ht : ∀ c ∈ t, isBlank c = true) : fieldsGo [] (v ++ (sp l ++ t)) = v :: l := by
  rw [fieldsGo_run v [] _ (fun c hc => (hv.2 c hc).1), List.nil_append]
  exact fields_sp l v hv.1 h t ht
theorem sp_mem (l : List B) (h : ∀ x ∈ l, clean x) : ∀ c ∈ sp l, c ≠ 37 ∧ c ≠ 10 := by
  induction l with
  | nil => intro c hc; cases hc
  | cons a r ih =>
    intro c hc
    rw [sp_cons] at hc
    rcases List.mem_cons.1 hc with rfl | hc
    · decide
    · rcases List.mem_append.1 hc with hc | hc
      · exact ((h a (by simp)).2 c hc).2
      · exact ih (fun x hx => h x (by simp [hx])) c hc
theorem words_line (v : B) (l : List B) (hv : clean v) (h : ∀ x ∈ l, clean x) : wordsOf (v ++ sp l) = v :: l := by
  unfold wordsOf
  rw [noteCut_clean _ (fun c hc => ?_)]
  · have := fields_line v l hv h [] (fun c hc => by cases hc)
    rwa [List.append_nil] at this
  · rcases List.mem_append.1 hc with hc | hc
    · exact (hv.2 c hc).2.1
    · exact (sp_mem l h c hc).1

theorem need_name (v : B) (n : Need) (h : needOf v = some n) : isName v = true := by
  unfold needOf at h
  repeat' (split at h)
  all_goals first
    | (rename_i e; subst e; decide)
    | (rename_i e; rcases e with rfl | rfl | rfl | rfl <;> decide)
    | (rename_i e; rcases e with rfl | rfl <;> decide)
    | cases h
theorem readCmd_facts (v : B) (rest : List B) (d : Cmd) (h : readCmd (v :: rest) = some d) : isName v = true ∧ d.verb = v ∧ d.words.all isName = true ∧ d.line = 0 := by
  cases hn : needOf v with
  | none => simp only [readCmd, hn] at h; cases h
  | some n =>
    rw [read_need v rest n hn] at h
    refine ⟨need_name v n hn, ?_⟩
    split at h
    · cases h
    · split at h
      · cases h
      · rename_i hall
        have hall' : (rest.take n.words).all isName = true := by simpa using hall
        split at h
        · split at h
          · obtain ⟨b, _, rfl⟩ := Option.map_eq_some_iff.1 h
            exact ⟨rfl, hall', rfl⟩
          · cases h
        · split at h
          · obtain ⟨b, _, rfl⟩ := Option.map_eq_some_iff.1 h
            exact ⟨rfl, hall', rfl⟩
          · cases h

def tailB (ws : List ByteArray) (ns bs : List Int) : List B := strs ws ++ (ns.map Lib.itoa ++ if bs = [] then [] else [hexW bs])
theorem vals_strs (v : ByteArray) (ws : List ByteArray) (ns bs : List Int) : (wordVals v ws ns bs).map (·.data.toList) = v.data.toList :: tailB ws ns bs := by
  rw [wordVals_cons, List.map_cons]
  congr 1
  unfold wordRest tailB strs
  have e1 : (ns.map fun n => mk (Lib.itoa n)).map (·.data.toList) = ns.map Lib.itoa := by
    rw [List.map_map]
    apply List.map_congr_left
    intro n _
    exact mk_data _
  rw [List.map_append, List.map_append, e1, List.append_assoc]
  congr 2
  split
  · rfl
  · rw [List.map_singleton, mk_data]
theorem lineVal_eq (v : ByteArray) (ws : List ByteArray) (ns bs : List Int) : lineVal v ws ns bs = v.data.toList ++ sp (tailB ws ns bs) := by
  unfold lineVal LB LN LA tailB
  split
  · rw [List.append_nil, sp_app, List.append_assoc]
  · rw [sp_app, sp_app]
    simp [sp, Lib.joinTail, List.append_assoc]
theorem textLine_eq (v : ByteArray) (ws : List ByteArray) (ns bs : List Int) : textLine v ws ns bs = mk (lineVal v ws ns bs) := by
  unfold textLine
  rw [vals_strs, Lib.join_cons, lineVal_eq]
  rfl
/-- The document's test. -/
def mayOk (v : ByteArray) (ws : List ByteArray) (ns bs : List Int) : Bool := isName v.data.toList && ((ws.all fun x => isName x.data.toList) && match readCmd (wordsOf (lineVal v ws ns bs)) with
  | none => false
  | some d => sameParts d v ws ns bs)
theorem tail_clean (ws : List ByteArray) (ns bs : List Int) (hb : ∀ b ∈ bs, 0 ≤ b ∧ b < 256) (h : (ws.all fun x => isName x.data.toList) = true) : ∀ x ∈ tailB ws ns bs, clean x := by
  intro x hx
  unfold tailB strs at hx
  rcases List.mem_append.1 hx with hx | hx
  · obtain ⟨y, hy, rfl⟩ := List.mem_map.1 hx
    exact clean_name _ (List.all_eq_true.1 h y hy)
  · rcases List.mem_append.1 hx with hx | hx
    · obtain ⟨n, _, rfl⟩ := List.mem_map.1 hx
      exact clean_itoa n
    · split at hx
      · cases hx
      · rename_i hne
        rw [List.mem_singleton.1 hx]
        exact clean_hexW bs hne hb
theorem text_may (v : ByteArray) (ws : List ByteArray) (ns bs : List Int) (hb : ∀ b ∈ bs, 0 ≤ b ∧ b < 256) : textOk v ws ns bs = mayOk v ws ns bs := by
  unfold textOk mayOk
  rw [vals_strs, lineVal_eq]
  by_cases hv : isName v.data.toList = true
  · by_cases hw : (ws.all fun x => isName x.data.toList) = true
    · rw [words_line _ _ (clean_name _ hv) (tail_clean ws ns bs hb hw), hv, hw]
      simp only [Bool.true_and] <;> rfl
    · rw [show (ws.all fun x => isName x.data.toList) = false by simpa using hw]
      cases hr : readCmd (v.data.toList :: tailB ws ns bs) with
      | none => simp
      | some d =>
        obtain ⟨_, _, h2, _⟩ := readCmd_facts _ _ _ hr
        simp only [Bool.false_and, Bool.and_false]
        unfold sameParts
        by_cases e : d.words.map mk = ws
        · exfalso
          apply hw
          rw [← e, List.all_map]
          rw [List.all_eq_true] at h2 ⊢
          intro x hx
          simp only [Function.comp, mk_data]
          exact h2 x hx
        · simp [e]
  · rw [show isName v.data.toList = false by simpa using hv]
    cases hr : readCmd (v.data.toList :: tailB ws ns bs) with
    | none => simp
    | some d => exact absurd (readCmd_facts _ _ _ hr).1 hv
/-! ### what is read -/
theorem hexOf_range : ∀ (w : B) (l : List Int), hexOf w = some l → ∀ b ∈ l, 0 ≤ b ∧ b < 256
  | [], l, h => by cases h; intro b hb; cases hb
  | [_], l, h => by cases h
  | x :: y :: r, l, h => by
    rw [hexOf] at h
    split at h
    · cases h
    · obtain ⟨l', hl', rfl⟩ := Option.map_eq_some_iff.1 h
      have hx := hexVal_range x
      have hy := hexVal_range y
      intro b hb
      rcases List.mem_cons.1 hb with rfl | hb
      · omega
      · exact hexOf_range r l' hl' b hb
theorem readCmd_bytes (v : B) (rest : List B) (d : Cmd) (h : readCmd (v :: rest) = some d) : ∀ b ∈ d.bytes, 0 ≤ b ∧ b < 256 := by
  cases hn : needOf v with
  | none => simp only [readCmd, hn] at h; cases h
  | some n =>
    rw [read_need v rest n hn] at h
    split at h
    · cases h
    · split at h
      · cases h
      · split at h
        · split at h
          · obtain ⟨b, hb, rfl⟩ := Option.map_eq_some_iff.1 h
            unfold bytesWord at hb
            split at hb
            · cases hb
            · exact hexOf_range _ _ hb
          · cases h
        · split at h
          · obtain ⟨b, _, rfl⟩ := Option.map_eq_some_iff.1 h
            intro b hb; cases hb
          · cases h
end Go.Proofs.YtfiacgkhkonilaaGreatDoor

/- Each command that was read is told as a line that is read as it; blanks and notes change nothing but places. No walk. -/
namespace Go.Proofs.YtfiacgkhkonilaaGreatDoor
open Go Go.RowKit

/-! ### Words are what a command was read from -/
theorem hexa_back (c : UInt8) (h : 0 ≤ hexVal c) : hexa.getD (hexVal c).toNat 0 = c := by
  have h1 := hexVal_range c
  obtain ⟨n, hn⟩ := Int.eq_ofNat_of_zero_le h
  unfold hexVal at hn
  have := (Lib.indexByte_some hn).1
  rw [show (hexVal c).toNat = n by unfold hexVal; omega, List.getD_eq_getElem?_getD, this, Option.getD_some]
theorem hexW_hexOf : ∀ (w : B) (l : List Int), hexOf w = some l → hexW l = w
  | [], l, h => by cases h; rfl
  | [_], l, h => by cases h
  | x :: y :: r, l, h => by
    rw [hexOf] at h
    split at h
    · cases h
    · rename_i hxy
      obtain ⟨l', hl', rfl⟩ := Option.map_eq_some_iff.1 h
      have hx := hexVal_range x
      have hy := hexVal_range y
      have hx0 : 0 ≤ hexVal x := by omega
      have hy0 : 0 ≤ hexVal y := by omega
      have ih := hexW_hexOf r l' hl'
      unfold hexW at ih ⊢
      rw [List.flatMap_cons, ih, show (hexVal x * 16 + hexVal y).toNat / 16 = (hexVal x).toNat by omega, show (hexVal x * 16 + hexVal y).toNat % 16 = (hexVal y).toNat by omega, hexa_back x hx0, hexa_back y hy0]
      rfl
theorem numsOf_back : ∀ (ws : List B) (l : List Int), numsOf ws = some l → l.map Lib.itoa = ws ∧ ∀ n ∈ l, -9223372036854775808 ≤ n ∧ n ≤ 9223372036854775807
  | [], l, h => by cases h; exact ⟨rfl, fun _ h => by cases h⟩
  | w :: r, l, h => by
    rw [numsOf] at h
    split at h
    · cases h
    · rename_i v hv
      obtain ⟨l', hl', rfl⟩ := Option.map_eq_some_iff.1 h
      obtain ⟨i1, i2⟩ := numsOf_back r l' hl'
      rw [numOf_ref] at hv
      obtain ⟨a, b, c⟩ := itoa_refNum w v hv
      refine ⟨by rw [List.map_cons, a, i1], fun n hn => ?_⟩
      rcases List.mem_cons.1 hn with rfl | hn
      · omega
      · exact i2 n hn
theorem cmd_back (v : B) (rest : List B) (d : Cmd) (h : readCmd (v :: rest) = some d) : cmdWords d = v :: rest ∧ ∀ n ∈ d.nums, -9223372036854775808 ≤ n ∧ n ≤ 9223372036854775807 := by
  cases hn : needOf v with
  | none => simp only [readCmd, hn] at h; cases h
  | some n =>
    rw [read_need v rest n hn] at h
    split at h
    · cases h
    · split at h
      · cases h
      · split at h
        · split at h
          · rename_i x hx
            obtain ⟨b, hb, rfl⟩ := Option.map_eq_some_iff.1 h
            unfold bytesWord at hb
            split at hb
            · cases hb
            · rename_i hne
              have hw := hexW_hexOf x b hb
              have hbn : b ≠ [] := fun e => hne (by rw [← hw, e]; rfl)
              refine ⟨?_, fun _ h => by cases h⟩
              unfold cmdWords tailWords
              dsimp only
              rw [if_neg hbn, hw, List.map_nil, List.nil_append, ← hx, List.take_append_drop]
          · cases h
        · split at h
          · obtain ⟨l, hl, rfl⟩ := Option.map_eq_some_iff.1 h
            obtain ⟨i1, i2⟩ := numsOf_back _ _ hl
            refine ⟨?_, i2⟩
            unfold cmdWords tailWords
            dsimp only
            rw [if_pos rfl, List.append_nil, i1, List.take_append_drop]
          · cases h

/-! ### A line's words are clean, and no longer than it -/
theorem fields_chars (P : UInt8 → Prop) : ∀ (l cur : B), (∀ c ∈ cur, isBlank c = false ∧ P c) → (∀ c ∈ l, P c) → ∀ w ∈ fieldsGo cur l, w ≠ [] ∧ ∀ c ∈ w, isBlank c = false ∧ P c
  | [], cur, hc, _, w, h => by
    unfold fieldsGo at h
    split at h
    · cases h
    · rename_i hne
      rw [List.mem_singleton.1 h]; exact ⟨hne, hc⟩
  | a :: r, cur, hc, hl, w, h => by
    unfold fieldsGo at h
    split at h
    · split at h
      · exact fields_chars P r [] (fun c h => by cases h) (fun c h => hl c (by simp [h])) w h
      · rename_i hne
        rcases List.mem_cons.1 h with rfl | h
        · exact ⟨hne, hc⟩
        · exact fields_chars P r [] (fun c h => by cases h) (fun c h => hl c (by simp [h])) w h
    · rename_i hb
      refine fields_chars P r _ (fun c h => ?_) (fun c h => hl c (by simp [h])) w h
      rcases List.mem_append.1 h with h | h
      · exact hc c h
      · rw [List.mem_singleton.1 h]; exact ⟨by simpa using hb, hl a (by simp)⟩
/-- All words, a blank behind each. -/
def total (ws : List B) : Nat := (ws.map fun w => w.length + 1).sum
theorem fields_total : ∀ (l cur : B), total (fieldsGo cur l) ≤ cur.length + l.length + 1
  | [], cur => by
    unfold fieldsGo
    split <;> simp [total]
  | a :: r, cur => by
    unfold fieldsGo
    split
    · split
      · have := fields_total r []
        simp at this ⊢; omega
      · have := fields_total r []
        simp only [total, List.map_cons, List.sum_cons, List.length_cons, List.length_nil] at this ⊢
        omega
    · have := fields_total r (cur ++ [a])
      simp at this ⊢; omega
theorem sp_total (l : List B) : (sp l).length = total l := by
  induction l with
  | nil => rfl
  | cons a r ih =>
    rw [sp_cons, List.length_append, List.length_cons, ih]
    simp [total]
/-- A command of a text: its words, whole. -/
def Good (m : Nat) (c : Cmd) : Prop := ∃ v rest, readCmd (v :: rest) = some { c with line := 0 } ∧ (∀ x ∈ v :: rest, clean x) ∧ (v ++ sp rest).length ≤ m
theorem line_good (l : B) (m : Nat) (h10 : ∀ c ∈ l, c ≠ 10) (hm : l.length ≤ m) (v : B) (rest : List B) (hw : wordsOf l = v :: rest) (c : Cmd) (k : Int) (hc : readCmd (v :: rest) = some c) : Good m { c with line := k } := by
  have hl0 := (readCmd_facts v rest c hc).2.2.2
  refine ⟨v, rest, ?_, fun x hx => ?_, ?_⟩
  · rw [hc]
    congr 1
    obtain ⟨cl, cv, cw, cn, cb⟩ := c
    simp only at hl0 ⊢
    rw [hl0]
  · rw [← hw] at hx
    unfold wordsOf at hx
    obtain ⟨h1, h2⟩ := fields_chars (fun c => c ≠ 37 ∧ c ≠ 10) _ [] (fun c h => by cases h) (fun c h => ⟨by
      have := List.all_eq_true.1 (takeWhile_all (fun x : UInt8 => decide (x ≠ 37)) l) c h
      simpa using this, h10 c ((List.takeWhile_sublist _).subset h)⟩) x hx
    exact ⟨h1, h2⟩
  · have h1 := fields_total (l.takeWhile (· ≠ 37)) []
    have h2 : fieldsGo [] (l.takeWhile (· ≠ 37)) = v :: rest := hw
    have h3 := (List.takeWhile_sublist (fun x : UInt8 => decide (x ≠ 37)) (l := l)).length_le
    rw [h2] at h1
    rw [List.length_append, sp_total]
    simp only [total, List.map_cons, List.sum_cons, List.length_nil] at h1 ⊢
    omega
theorem parse_good (m : Nat) : ∀ (ls : List B) (k : Nat) (acc cs : List Cmd), parseLines k ls acc = .ok cs → (∀ c ∈ acc, Good m c) → (∀ l ∈ ls, (∀ c ∈ l, c ≠ 10) ∧ l.length ≤ m) → ∀ c ∈ cs, Good m c
  | [], k, acc, cs, h, ha, _ => by cases h; exact ha
  | l :: r, k, acc, cs, h, ha, hl => by
    rw [parseLines_app] at h
    split at h
    · exact parse_good m r _ _ _ h ha (fun x hx => hl x (by simp [hx]))
    · rename_i hw
      split at h
      · cases h
      · rename_i c hc
        refine parse_good m r _ _ _ h (fun x hx => ?_) (fun x hx => hl x (by simp [hx]))
        rcases List.mem_append.1 hx with hx | hx
        · exact ha x hx
        · rw [List.mem_singleton.1 hx]
          cases hwd : wordsOf l with
          | nil => exact absurd hwd hw
          | cons v rest =>
            rw [hwd] at hc
            exact line_good l m (hl l (by simp)).1 (hl l (by simp)).2 v rest hwd c _ hc
theorem lines_no10 : ∀ (l : B), ∀ x ∈ lines l, ∀ c ∈ x, c ≠ 10
  | [], x, hx, c, hc => by
    unfold lines at hx
    rw [List.mem_singleton.1 hx] at hc; cases hc
  | a :: r, x, hx, c, hc => by
    unfold lines at hx
    split at hx
    · rcases List.mem_cons.1 hx with rfl | hx
      · cases hc
      · exact lines_no10 r x hx c hc
    · rename_i ha
      have ih := lines_no10 r
      cases hl : lines r with
      | nil => exact absurd hl (lines_ne r)
      | cons y ys =>
        rw [hl] at hx ih
        rcases List.mem_cons.1 hx with rfl | hx
        · rcases List.mem_cons.1 hc with rfl | hc
          · exact ha
          · exact ih y (by simp) c hc
        · exact ih x (by simp [hx]) c hc
end Go.Proofs.YtfiacgkhkonilaaGreatDoor

namespace Go.Proofs.YtfiacgkhkonilaaGreatDoor
open Go Go.RowKit Go.Extern.Stop Go.Stop Go.Extern

/-- errors.As(nil, target). -/
theorem as_nil (t : Value) (w : World) :
    Calls Tryz.prog 25 #[.nilIface, t] w fun e w' => e = .returned (.bool false) ∧ w' = w := by
  go_enter Tryz.func25, Tryz.ntmps25
  go_wp2
  go_ret
  exact ⟨rfl, rfl⟩

/-! ### CLOSED FACTS ON THE MODEL's ENTRIES FOR internal/reflectlite, at this program's types: 25: *p.E · 27: **p.E · 23: error · 45: reflectlite's rtype · 1: how many package-level variables the dump has -/
theorem Asx.valueOf27 (t : Addr) (w : World) : (ReflectliteValue.unpack (.iface 61 (.pointer (some t)))).run Tryz.prog w
    = .ok (.agg #[.pointer (some ⟨9, 61, none⟩), .pointer (some ⟨w.heap.size, 0, none⟩), .int .u64 150]) (w.alloc (.cells #[.pointer (some t)] 61)) := by kernel_rfl
theorem Asx.type27 (a : Addr) (w : World) : (ReflectliteValue.methodAny (ReflectliteValue.valueError "reflectlite.Value.Type" 0) (fun t _ _ _ => ReflectliteType.toType t) #[.agg #[.pointer (some ⟨9, 61, none⟩), .pointer (some a), .int .u64 150]]).run Tryz.prog w
    = .ok (.iface 116 (.agg #[.pointer (some ⟨9, 61, none⟩)])) w := by kernel_rfl
theorem Asx.methodKind (h : Value) (w : World) : (Go.method 308 116 (.agg #[h]) "Kind").run Tryz.prog w = .ok (129, h) w := by kernel_rfl
theorem Asx.kind27 (w : World) : ((ReflectliteType.abiMethod fun t => (fun a : Nat => Value.int IntKind.u8 (a : Int)) <$> Rtype.kind t) #[.pointer (some ⟨9, 61, none⟩)]).run Tryz.prog w = .ok (.int .u8 22) w := by kernel_rfl
theorem Asx.kind25 (w : World) : ((ReflectliteType.abiMethod fun t => (fun a : Nat => Value.int IntKind.u8 (a : Int)) <$> Rtype.kind t) #[.pointer (some ⟨9, 47, none⟩)]).run Tryz.prog w = .ok (.int .u8 2) w := by kernel_rfl

/-! ### THE ENTRIES THAT READ OR WRITE MEMORY: laws with a premise on the cell (after Derived/Lib/ReflectliteSlice.lean's manner: each unfolding a lemma of its own, by rfl) -/
theorem rlm (z : Sem Value) (f : TypeId → Addr → Nat → Nat → Sem Value) (v : Value) :
    ReflectliteValue.method z f #[v] = (do match ← ReflectliteValue.parts v with | none => z | some (t, a, fl) => f t a fl (fl % 32)) := rfl
theorem Asx.parts27 (a : Addr) (w : World) : (ReflectliteValue.parts (.agg #[.pointer (some ⟨9, 61, none⟩), .pointer (some a), .int .u64 150])).run Tryz.prog w = .ok (some (61, a, 150)) w := by kernel_rfl
/-- (Value).IsNil at the Value of a **p.E that is not nil. -/
theorem Asx.isNil27 (a p : Addr) (W : World) (ha : W.cell? a = some (.pointer (some p))) :
    (ReflectliteValue.method (ReflectliteValue.valueError "reflectlite.Value.IsNil" 0) ReflectliteValue.isNil #[.agg #[.pointer (some ⟨9, 61, none⟩), .pointer (some a), .int .u64 150]]).run Tryz.prog W = .ok (.bool false) W := by
  rw [rlm]
  simp only [Sem.run_bind, Asx.parts27, Result.andThen]
  simp [ReflectliteValue.isNil, loadVar, isAgg, underlying, Tryz.underlying61, ha, Result.andThen]

theorem Asx.methodElem (h : Value) (w : World) : (Go.method 308 116 (.agg #[h]) "Elem").run Tryz.prog w = .ok (140, .agg #[h]) w := by kernel_rfl
theorem Asx.methodImplements (h : Value) (w : World) : (Go.method 308 116 (.agg #[h]) "Implements").run Tryz.prog w = .ok (141, .agg #[h]) w := by kernel_rfl
theorem Asx.methodAssignableTo (h : Value) (w : World) : (Go.method 308 116 (.agg #[h]) "AssignableTo").run Tryz.prog w = .ok (138, .agg #[h]) w := by kernel_rfl
theorem Asx.elem27 (w : World) : (ReflectliteType.method ReflectliteType.elem #[.agg #[.pointer (some ⟨9, 61, none⟩)]]).run Tryz.prog w = .ok (.iface 116 (.agg #[.pointer (some ⟨9, 47, none⟩)])) w := by kernel_rfl
theorem Asx.implements25 (w : World) : (ReflectliteType.relation "Implements" ReflectliteType.implements_ #[.agg #[.pointer (some ⟨9, 47, none⟩)], .iface 116 (.agg #[.pointer (some ⟨9, 25, none⟩)])]).run Tryz.prog w = .ok (.bool true) w := by kernel_rfl
theorem Asx.typeOf25 (v : Value) (w : World) : (ReflectliteType.typeOf #[.iface 47 v]).run Tryz.prog w = .ok (.iface 116 (.agg #[.pointer (some ⟨9, 47, none⟩)])) w := by kernel_rfl
theorem Asx.assignable25 (w : World) : (ReflectliteType.relation "AssignableTo" ReflectliteType.assignableTo #[.agg #[.pointer (some ⟨9, 47, none⟩)], .iface 116 (.agg #[.pointer (some ⟨9, 47, none⟩)])]).run Tryz.prog w = .ok (.bool true) w := by kernel_rfl
theorem Asx.valueOf25 (e : Int) (w : World) : (ReflectliteValue.unpack (.iface 47 (.int .i64 e))).run Tryz.prog w
    = .ok (.agg #[.pointer (some ⟨9, 47, none⟩), .pointer (some ⟨w.heap.size, 0, none⟩), .int .u64 130]) (w.alloc (.cells #[.int .i64 e] 47)) := by kernel_rfl

theorem Asx.elemOf27 (w : World) : (Rtype.elem? 61).run Tryz.prog w = .ok (some 47) w := by kernel_rfl
theorem Asx.mk25 (p : Addr) (w : World) : (ReflectliteValue.mk 47 p ReflectliteValue.flagAddr).run Tryz.prog w = .ok (.agg #[.pointer (some ⟨9, 47, none⟩), .pointer (some p), .int .u64 386]) w := by kernel_rfl
/-- (Value).Elem at the Value of a **p.E that is not nil: the Value of the *p.E variable that it points to, addressable. -/
theorem Asx.elemV27 (a p : Addr) (W : World) (ha : W.cell? a = some (.pointer (some p))) :
    (ReflectliteValue.method (ReflectliteValue.valueError "reflectlite.Value.Elem" 0) ReflectliteValue.elem #[.agg #[.pointer (some ⟨9, 61, none⟩), .pointer (some a), .int .u64 150]]).run Tryz.prog W
      = .ok (.agg #[.pointer (some ⟨9, 47, none⟩), .pointer (some p), .int .u64 386]) W := by
  rw [rlm]
  simp only [Sem.run_bind, Asx.parts27, Result.andThen]
  simp [ReflectliteValue.elem, loadVar, isAgg, underlying, Tryz.underlying61, ha, Result.andThen, Asx.elemOf27, Asx.mk25]
theorem rls (v x : Value) : ReflectliteValue.set #[v, x] = (do
    let (some (dst, a, fl), some (src, b, _)) := (← ReflectliteValue.parts v, ← ReflectliteValue.parts x)
      | unsupported (.noEntry "extern/(internal/reflectlite.Value).Set.zeroValue")
    if fl / ReflectliteValue.flagAddr % 2 == 0 then unsupported (.noEntry "extern/(internal/reflectlite.Value).Set.unaddressable")
    let val ← loadVar src b
    if ← Rtype.directlyAssignable dst src then storeVar dst a val
    else if ← Rtype.implements dst src then
      if (← Rtype.kind src) == 20 then
        match val with
        | .nilIface => unsupported (.noEntry "extern/reflectlite: a nil value of one interface type handed on as a value of another")
        | _ => storeVar dst a val
      else storeVar dst a (.iface src val)
    else panicString ("reflectlite.Set: value of type " ++ (← Rtype.spelt src) ++ " is not assignable to type " ++ (← Rtype.spelt dst))
    pure (.tuple #[])) := rfl
theorem Asx.parts25a (a : Addr) (w : World) : (ReflectliteValue.parts (.agg #[.pointer (some ⟨9, 47, none⟩), .pointer (some a), .int .u64 386])).run Tryz.prog w = .ok (some (47, a, 386)) w := by kernel_rfl
theorem Asx.parts25 (a : Addr) (w : World) : (ReflectliteValue.parts (.agg #[.pointer (some ⟨9, 47, none⟩), .pointer (some a), .int .u64 130])).run Tryz.prog w = .ok (some (47, a, 130)) w := by kernel_rfl
theorem Asx.direct25 (w : World) : (Rtype.directlyAssignable 47 47).run Tryz.prog w = .ok true w := by kernel_rfl
theorem Asx.size25 (w : World) : (sizeOf 47).run Tryz.prog w = .ok 1 w := by kernel_rfl
/-- (Value).Set: the *p.E variable at 'ta' gets what the Value's own variable 'b' holds. -/
theorem Asx.set25 (ta b : Addr) (e : Int) (old : Value) (W : World) (hb : W.cell? b = some (.int .i64 e)) (ht : W.cell? ta = some old) (hf : W.frozen? ta = false) :
    (ReflectliteValue.set #[.agg #[.pointer (some ⟨9, 47, none⟩), .pointer (some ta), .int .u64 386], .agg #[.pointer (some ⟨9, 47, none⟩), .pointer (some b), .int .u64 130]]).run Tryz.prog W
      = .ok (.tuple #[]) (W.setCell ta (.int .i64 e)) := by
  rw [rls]
  simp only [Sem.run_bind, Asx.parts25a, Asx.parts25, Result.andThen]
  simp [ReflectliteValue.flagAddr, loadVar, isAgg, underlying, Tryz.underlying47, hb, Result.andThen, Asx.direct25, storeVar, Value.cells, storeCells, Addr.add]
  rw [run_store Tryz.prog W ta _ _ (by rfl)]
  simp [ht, hf]

set_option maxRecDepth 100000 in
set_option maxHeartbeats 4000000 in
theorem as_hit (e : Int) (t : Addr) (old : Value) (w : World) (hg : w.cell? ⟨0, 0, none⟩ = some (.iface 116 (.agg #[.pointer (some ⟨9, 25, none⟩)]))) (ht0 : w.cell? t = some old) (hf0 : w.frozen? t = false) :
    Calls Tryz.prog 25 #[.iface 47 (.int .i64 e), .iface 61 (.pointer (some t))] w fun ev w' => ev = .returned (.bool true) ∧ w' = ((((w.alloc (.cells #[.pointer (some t)] 61)).alloc (.cells #[.pointer (some ⟨9, 61, none⟩), .pointer (some ⟨w.heap.size, 0, none⟩), .int .u64 150] 88)).alloc (.cells #[.pointer (some ⟨9, 61, none⟩), .pointer (some ⟨w.heap.size, 0, none⟩), .int .u64 150] 88)).alloc (.cells #[.int .i64 e] 47)).setCell t (.int .i64 e) := by
  have h6 := @run_callFunc_extern Tryz.prog 44 _ (fun args => ReflectliteValue.unpack (args.getD 0 (.tuple #[]))) Tryz.func44 (by kernel_rfl) (by kernel_rfl) (by kernel_rfl) (by kernel_rfl)
  have h7 := @run_callFunc_extern Tryz.prog 45 _ (ReflectliteValue.methodAny (ReflectliteValue.valueError "reflectlite.Value.Type" 0) (fun t _ _ _ => ReflectliteType.toType t)) Tryz.func45 (by kernel_rfl) (by kernel_rfl) (by kernel_rfl) (by kernel_rfl)
  have h8 := @run_callFunc_extern Tryz.prog 46 _ (ReflectliteValue.method (ReflectliteValue.valueError "reflectlite.Value.IsNil" 0) ReflectliteValue.isNil) Tryz.func46 (by kernel_rfl) (by kernel_rfl) (by kernel_rfl) (by kernel_rfl)
  have h27 := @run_callFunc_extern Tryz.prog 129 _ (ReflectliteType.abiMethod fun t => do pure (.int .u8 (← Rtype.kind t))) Tryz.func129 (by kernel_rfl) (by kernel_rfl) (by kernel_rfl) (by kernel_rfl)
  have h37 := @run_callFunc_extern Tryz.prog 140 _ (ReflectliteType.method ReflectliteType.elem) Tryz.func140 (by kernel_rfl) (by kernel_rfl) (by kernel_rfl) (by kernel_rfl)
  have h38 := @run_callFunc_extern Tryz.prog 141 _ (ReflectliteType.relation "Implements" ReflectliteType.implements_) Tryz.func141 (by kernel_rfl) (by kernel_rfl) (by kernel_rfl) (by kernel_rfl)
  have h10 := @run_callFunc_extern Tryz.prog 60 _ ReflectliteType.typeOf Tryz.func60 (by kernel_rfl) (by kernel_rfl) (by kernel_rfl) (by kernel_rfl)
  have h35 := @run_callFunc_extern Tryz.prog 138 _ (ReflectliteType.relation "AssignableTo" ReflectliteType.assignableTo) Tryz.func138 (by kernel_rfl) (by kernel_rfl) (by kernel_rfl) (by kernel_rfl)
  have h11 := @run_callFunc_extern Tryz.prog 61 _ (ReflectliteValue.method (ReflectliteValue.valueError "reflectlite.Value.Elem" 0) ReflectliteValue.elem) Tryz.func61 (by kernel_rfl) (by kernel_rfl) (by kernel_rfl) (by kernel_rfl)
  have h12 := @run_callFunc_extern Tryz.prog 62 _ ReflectliteValue.set Tryz.func62 (by kernel_rfl) (by kernel_rfl) (by kernel_rfl) (by kernel_rfl)
  have tO := Asx.typeOf25
  have mA := Asx.methodAssignableTo
  have a25 := Asx.assignable25
  have v25 := Asx.valueOf25
  have f6 := Asx.valueOf27
  have f7 := Asx.type27
  have mK := Asx.methodKind
  have mE := Asx.methodElem
  have mI := Asx.methodImplements
  have k27 := Asx.kind27
  have k25 := Asx.kind25
  have e27 := Asx.elem27
  have i25 := Asx.implements25
  have n8 := Asx.isNil27 ⟨w.heap.size, 0, none⟩ t ((w.alloc (.cells #[.pointer (some t)] 61)).alloc (.cells #[.pointer (some ⟨9, 61, none⟩), .pointer (some ⟨w.heap.size, 0, none⟩), .int .u64 150] 88)) (by simp)
  have hlt : 0 < w.heap.size := by
    rcases Nat.eq_zero_or_pos w.heap.size with h0 | h
    · simp [World.cell?, h0] at hg
    · exact h
  have hg2 : ((w.alloc (.cells #[.pointer (some t)] 61)).alloc (.cells #[.pointer (some ⟨9, 61, none⟩), .pointer (some ⟨w.heap.size, 0, none⟩), .int .u64 150] 88)).cell? ⟨0, 0, none⟩ = some (.iface 116 (.agg #[.pointer (some ⟨9, 25, none⟩)])) := by
    rw [World.cell?_alloc_lt _ _ ⟨0, 0, none⟩ (by simp), World.cell?_alloc_lt _ _ ⟨0, 0, none⟩ hlt]; exact hg
  have htl : t.block < w.heap.size := by
    rcases Nat.lt_or_ge t.block w.heap.size with h | h
    · exact h
    · simp [World.cell?, Array.getElem?_eq_none h] at ht0
  have el := Asx.elemV27 ⟨w.heap.size, 0, none⟩ t (((w.alloc (.cells #[.pointer (some t)] 61)).alloc (.cells #[.pointer (some ⟨9, 61, none⟩), .pointer (some ⟨w.heap.size, 0, none⟩), .int .u64 150] 88)).alloc (.cells #[.pointer (some ⟨9, 61, none⟩), .pointer (some ⟨w.heap.size, 0, none⟩), .int .u64 150] 88)) (by rw [World.cell?_alloc_lt _ _ ⟨w.heap.size, 0, none⟩ (by simp; omega)]; simp)
  have st := Asx.set25 t ⟨w.heap.size + 1 + 1 + 1, 0, none⟩ e old ((((w.alloc (.cells #[.pointer (some t)] 61)).alloc (.cells #[.pointer (some ⟨9, 61, none⟩), .pointer (some ⟨w.heap.size, 0, none⟩), .int .u64 150] 88)).alloc (.cells #[.pointer (some ⟨9, 61, none⟩), .pointer (some ⟨w.heap.size, 0, none⟩), .int .u64 150] 88)).alloc (.cells #[.int .i64 e] 47))
    (by rw [World.cell?_alloc_at _ _ _ _ (by simp)]; rfl)
    (by rw [World.cell?_alloc_lt _ _ t (by simp; omega), World.cell?_alloc_lt _ _ t (by simp; omega), World.cell?_alloc_lt _ _ t (by simp; omega), World.cell?_alloc_lt _ _ t htl]; exact ht0)
    (by rw [World.frozen?_alloc_old _ _ t (by simp; omega), World.frozen?_alloc_old _ _ t (by simp; omega), World.frozen?_alloc_old _ _ t (by simp; omega), World.frozen?_alloc_old _ _ t (Nat.ne_of_lt htl)]; exact hf0)
  go_enter Tryz.func25, Tryz.ntmps25
  go_wp2
  refine wp_loop_rounds 1 ?_
  rw [rounds_succ]
  go_wp2
  go_ret
  exact ⟨rfl, rfl⟩
end Go.Proofs.YtfiacgkhkonilaaGreatDoor

/- The walk of num: an error's number. -/
namespace Go.Proofs.YtfiacgkhkonilaaGreatDoor
open Go Go.RowKit Go.Proofs.YtfiacgkhkonilaaGreatDoorW.PrintWords Go.Proofs.YtfiacgkhkonilaaGreatDoorW.PrintLast Go.Proofs.YtfiacgkhkonilaaGreatDoorW.PrintMore

set_option maxRecDepth 100000 in
theorem num_nil (w : World) : Calls Tryz.prog 9 #[.nilIface] w fun e w' => e = .returned (.int .i64 0) ∧ Below w.heap.size w w' := by
  go_enter Tryz.func9, Tryz.ntmps9
  go_wp2
  go_ret
  exact ⟨rfl, (Below.refl _ w).alloc (Nat.le_refl _) _⟩

theorem as_errno (k : Int) (t : Nat) (w : World) (he : Env w) (ht : w.heap[t]? = some (.cells #[.int .i64 0] 47 (0, 0))) :
    Calls Tryz.prog 25 #[.iface 47 (.int .i64 k), .iface 61 (.pointer (some ⟨t, 0, none⟩))] w fun e w' => e = .returned (.bool true) ∧ w'.heap[t]? = some (.cells #[.int .i64 k] 47 (0, 0)) ∧ Below t w w' := by
  have hlt : t < w.heap.size := (Array.getElem?_eq_some_iff.1 ht).1
  refine (as_hit k ⟨t, 0, none⟩ (.int .i64 0) w he.typ (blk_cell ht 0) (blk_frozen ht 0)).mono ?_
  rintro e w' ⟨rfl, rfl⟩
  refine ⟨rfl, ?_, ?_⟩
  · exact blk_set (up _ (up _ (up _ (up _ ht)))) 0 _
  · exact (((((Below.refl t w).alloc (by omega) _).alloc (by simp; omega) _).alloc (by simp; omega) _).alloc (by simp; omega) _).setCell (Nat.le_refl _) _

set_option maxRecDepth 100000 in
theorem num_errno (k : Int) (w : World) (he : Env w) : Calls Tryz.prog 9 #[.iface 47 (.int .i64 k)] w fun e w' => e = .returned (.int .i64 k) ∧ Below w.heap.size w w' := by
  have hW : Env (w.alloc (.cells #[.int .i64 0] 47)) := he.below ((Below.refl _ w).alloc (Nat.le_refl _) _)
  have HA := Lib.hid (as_errno k w.heap.size (w.alloc (.cells #[.int .i64 0] 47)) hW (fresh w _ rfl))
  clear hW
  go_enter Tryz.func9, Tryz.ntmps9
  go_wp2_with (go_at_call 25; refine HA.out.mono ?_; rintro e w1 ⟨rfl, hc, hb⟩; have c0 : w1.cell? ⟨w.heap.size, 0, none⟩ = some (.int .i64 k) := blk_cell hc 0)
  go_ret
  exact ⟨rfl, ((Below.refl _ w).alloc (Nat.le_refl _) _).trans hb⟩
end Go.Proofs.YtfiacgkhkonilaaGreatDoor

/- What script.Parse gives, in one form for a text and for an error; num; small laws on worlds. -/
namespace Go.Proofs.YtfiacgkhkonilaaGreatDoor
open Go Go.RowKit Go.Proofs.YtfiacgkhkonilaaGreatDoorW.PrintWords Go.Proofs.YtfiacgkhkonilaaGreatDoorW.PrintLast Go.Proofs.YtfiacgkhkonilaaGreatDoorW.PrintMore

/-- What a text is: its commands, the line that is wrong, the error's number. -/
def resOf (s : ByteArray) : List Cmd × Nat × Int := if 65536 < s.size then ([], 0, 2) else match parseLines 0 (lines s.data.toList) [] with
  | .ok cs => (cs, 0, 0)
  | .error k => ([], k, 337)
/-- An error's value. -/
def errVal (n : Int) : Value := if n = 0 then .nilIface else .iface 47 (.int .i64 n)
theorem parse_uni (s : ByteArray) (w : World) (he : Env w) : Calls Tryz.prog 7 #[.string s] w fun e w' => Below w.heap.size w w' ∧ ∃ A c, e = .returned (.tuple #[.slice A (resOf s).1.length c, .int .i64 (resOf s).2.1, errVal (resOf s).2.2]) ∧ (resOf s).1.length ≤ c ∧ kdCmd.C w' A (resOf s).1.length (resOf s).1 ∧ (0 < (resOf s).1.length → ∃ g, A = some ⟨g, 0, none⟩) := by
  refine (parse_any s w he).mono ?_
  rintro e w' ⟨hb, h⟩
  refine ⟨hb, ?_⟩
  unfold resOf
  by_cases hl : 65536 < s.size
  · rw [if_pos hl] at h ⊢
    exact ⟨none, 0, h, Nat.le_refl _, Kd.C_nil _ _, fun h => by simp at h⟩
  · rw [if_neg hl] at h ⊢
    cases hp : parseLines 0 (lines s.data.toList) [] with
    | ok cs =>
      rw [hp] at h
      obtain ⟨A, c, h1, h2, h3, h4⟩ := h
      exact ⟨A, c, h1, h2, h3, h4⟩
    | error k =>
      rw [hp] at h
      exact ⟨none, 0, h, Nat.le_refl _, Kd.C_nil _ _, fun h => by simp at h⟩
theorem num_any (n : Int) (w : World) (he : Env w) : Calls Tryz.prog 9 #[errVal n] w fun e w' => e = .returned (.int .i64 n) ∧ Below w.heap.size w w' := by
  unfold errVal
  split
  · rename_i h; subst h; exact num_nil w
  · exact num_errno n w he

theorem below3 {w w1 w2 w3 : World} (h1 : Below w.heap.size w w1) (h2 : Below w1.heap.size w1 w2) (h3 : Below w2.heap.size w2 w3) : Below w.heap.size w w3 :=
  (h1.trans (h2.mono h1.size)).trans (h3.mono (Nat.le_trans h1.size h2.size))
theorem below2 {w w1 w2 : World} (h1 : Below w.heap.size w w1) (h2 : Below w1.heap.size w1 w2) : Below w.heap.size w w2 := h1.trans (h2.mono h1.size)
/-- The relations of the two loops: how far, and that all that was there stays. -/
def RL (n : Nat) (w3 : World) (i : Value) (wr : World) : Prop := ∃ k : Nat, k ≤ n ∧ i = .int .i64 k ∧ Below w3.heap.size w3 wr

end Go.Proofs.YtfiacgkhkonilaaGreatDoor

/- A text behind a note; a command's line read again. No walk. -/
namespace Go.Proofs.YtfiacgkhkonilaaGreatDoor
open Go Go.RowKit

def bump (c : Cmd) : Cmd := { c with line := c.line + 1 }
def bumpR : Except Nat (List Cmd) → Except Nat (List Cmd)
  | .ok cs => .ok (cs.map bump)
  | .error j => .error (j + 1)
theorem parse_bump : ∀ (ls : List B) (k : Nat) (acc : List Cmd), parseLines (k + 1) ls (acc.map bump) = bumpR (parseLines k ls acc)
  | [], k, acc => rfl
  | l :: r, k, acc => by
    rw [parseLines_app, parseLines_app]
    cases hw : wordsOf l with
    | nil => exact parse_bump r (k + 1) acc
    | cons v rest =>
      dsimp only
      cases hc : readCmd (v :: rest) with
      | none => rfl
      | some c =>
        dsimp only
        have := parse_bump r (k + 1) (acc ++ [{ c with line := (k : Int) + 1 }])
        rw [List.map_append] at this
        rw [← this]
        congr 3 <;> simp [bump]
theorem lines_cr (l : B) : ∃ x xs, lines l = x :: xs ∧ lines (13 :: l) = (13 :: x) :: xs := by
  cases hl : lines l with
  | nil => exact absurd hl (lines_ne l)
  | cons x xs => exact ⟨x, xs, rfl, by rw [lines, if_neg (by decide), hl]⟩
theorem words_cr (x : B) : wordsOf (13 :: x) = wordsOf x := by
  unfold wordsOf
  rw [List.takeWhile_cons, if_pos (by decide), fieldsGo, if_pos (by decide), if_pos rfl]
theorem words_note (note : B) : wordsOf (32 :: 9 :: 37 :: 32 :: note) = [] := by
  unfold wordsOf
  rw [List.takeWhile_cons, if_pos (by decide), List.takeWhile_cons, if_pos (by decide), List.takeWhile_cons, if_neg (by decide), fieldsGo, if_pos (by decide), if_pos rfl, fieldsGo, if_pos (by decide), if_pos rfl]
  rfl
theorem parse_pre (note s : B) (hn : ∀ c ∈ note, c ≠ 10) : parseLines 0 (lines ((32 :: 9 :: 37 :: 32 :: note) ++ 10 :: 13 :: s)) [] = bumpR (parseLines 0 (lines s) []) := by
  rw [lines_cut _ _ (fun k h => ?_)]
  · rw [parseLines_app, words_note]
    dsimp only
    obtain ⟨x, xs, h1, h2⟩ := lines_cr s
    rw [h2, h1, ← parse_bump, parseLines_app, parseLines_app, words_cr]
    rfl
  · have hm := List.mem_of_getElem? h
    simp only [List.mem_cons] at hm
    rcases hm with h | h | h | h | h
    · exact absurd h (by decide)
    · exact absurd h (by decide)
    · exact absurd h (by decide)
    · exact absurd h (by decide)
    · exact hn _ h rfl
def preText (note s : ByteArray) : ByteArray := (⟨#[32, 9, 37, 32]⟩ ++ note) ++ ⟨#[10, 13]⟩ ++ s
theorem preText_data (note s : ByteArray) : (preText note s).data.toList = (32 :: 9 :: 37 :: 32 :: note.data.toList) ++ 10 :: 13 :: s.data.toList := by
  unfold preText
  rw [ByteArray.data_append, ByteArray.data_append, ByteArray.data_append, Array.toList_append, Array.toList_append, Array.toList_append]
  simp
theorem pre_size (note s : ByteArray) : (preText note s).size = note.size + s.size + 6 := by
  rw [Lib.size_eq, preText_data, Lib.size_eq, Lib.size_eq]
  simp; omega
theorem pre_res (note s : ByteArray) (hn : ∀ c ∈ note.data.toList, c ≠ 10) (h1 : s.size ≤ 3000) (h2 : note.size ≤ 100) :
    (resOf (preText note s)).1 = (resOf s).1.map bump ∧ (resOf (preText note s)).2.2 = (resOf s).2.2 ∧ ((resOf s).2.2 ≠ 0 → (resOf (preText note s)).2.1 = (resOf s).2.1 + 1) := by
  unfold resOf
  rw [if_neg (by rw [pre_size]; omega), if_neg (by omega), preText_data, parse_pre _ _ hn]
  cases parseLines 0 (lines s.data.toList) [] with
  | ok cs => exact ⟨rfl, rfl, fun h => absurd rfl h⟩
  | error j => exact ⟨rfl, rfl, fun _ => rfl⟩
theorem good_res (s : ByteArray) (h1 : s.size ≤ 3000) : ∀ c ∈ (resOf s).1, Good 3000 c := by
  unfold resOf
  rw [if_neg (by omega)]
  cases hp : parseLines 0 (lines s.data.toList) [] with
  | error j => intro c hc; cases hc
  | ok cs =>
    refine parse_good 3000 _ _ _ _ hp (fun c hc => by cases hc) (fun l hl => ⟨lines_no10 _ l hl, ?_⟩)
    have := (lines_size s.data.toList).2 l hl
    rw [Lib.size_eq] at h1
    omega

/-! ### a command's line -/
def cv (c : Cmd) : ByteArray := mk c.verb
def cw (c : Cmd) : List ByteArray := c.words.map mk
def tl (c : Cmd) : ByteArray := mk (lineOf c)
def backText (t : ByteArray) : ByteArray := ⟨#[10, 32]⟩ ++ t ++ ⟨#[32, 37, 32, 120]⟩
theorem strs_cw (c : Cmd) : strs (cw c) = c.words := by
  unfold strs cw
  rw [List.map_map]
  conv => rhs; rw [← List.map_id c.words]
  apply List.map_congr_left
  intro x _
  exact mk_data x
theorem line_of (c : Cmd) : lineVal (cv c) (cw c) c.nums c.bytes = lineOf c := by
  rw [lineVal_eq]
  unfold tailB lineOf tailWords cv
  rw [strs_cw, mk_data]
theorem vals_of (c : Cmd) : (wordVals (cv c) (cw c) c.nums c.bytes).map (·.data.toList) = cmdWords c := by
  rw [vals_strs]
  unfold tailB cmdWords tailWords cv
  rw [strs_cw, mk_data]
theorem back_ok (m : Nat) (c : Cmd) (h : Good m c) : textOk (cv c) (cw c) c.nums c.bytes = true ∧ textLine (cv c) (cw c) c.nums c.bytes = tl c := by
  refine ⟨?_, by rw [textLine_eq, line_of]; rfl⟩
  obtain ⟨v, rest, hr, _, _⟩ := h
  have hb := (cmd_back v rest _ hr).1
  unfold textOk
  rw [vals_of, show cmdWords c = cmdWords { c with line := 0 } from rfl, hb, hr]
  show sameParts _ _ _ _ _ = true
  unfold sameParts cv cw
  simp
/-- What a walk of Text asks of a command. -/
structure Fits (c : Cmd) : Prop where
  words : (cw c).length ≤ 1000000
  nums : c.nums.length ≤ 1000000
  bytes : c.bytes.length ≤ 1000000
  range : ∀ n ∈ c.nums, -9223372036854775808 ≤ n ∧ n ≤ 9223372036854775807
  octets : ∀ b ∈ c.bytes, 0 ≤ b ∧ b < 256
  sizes : ∀ x ∈ cw c, x.size ≤ 1000000
  line : (lineOf c).length ≤ 3000
theorem len_total (l : List B) : l.length ≤ total l := by
  induction l with
  | nil => exact Nat.le_refl 0
  | cons a r ih => simp [total] at ih ⊢; omega
theorem mem_total (l : List B) (x : B) (h : x ∈ l) : x.length ≤ total l := by
  induction l with
  | nil => cases h
  | cons a r ih =>
    rcases List.mem_cons.1 h with rfl | h
    · simp [total]; omega
    · have := ih h; simp [total] at this ⊢; omega
theorem fits_good (c : Cmd) (h : Good 3000 c) : Fits c := by
  obtain ⟨v, rest, hr, _, hl⟩ := h
  obtain ⟨hb, hn⟩ := cmd_back v rest _ hr
  have hbt0 := readCmd_bytes v rest _ hr
  have hbt : ∀ b ∈ c.bytes, 0 ≤ b ∧ b < 256 := hbt0
  have e : cmdWords c = v :: rest := hb
  unfold cmdWords at e
  obtain ⟨e1, e2⟩ := List.cons.inj e
  rw [List.length_append, sp_total] at hl
  have ht := len_total rest
  rw [← e2] at ht hl
  have hmem := mem_total (tailWords c.words c.nums c.bytes)
  have hlen : (tailWords c.words c.nums c.bytes).length = c.words.length + (c.nums.length + (if c.bytes = [] then [] else [hexW c.bytes]).length) := by
    unfold tailWords; rw [List.length_append, List.length_append, List.length_map]
  refine ⟨by unfold cw; rw [List.length_map]; omega, by omega, ?_, hn, hbt, fun x hx => ?_, ?_⟩
  · by_cases hb0 : c.bytes = []
    · rw [hb0]; simp
    · have := hmem (hexW c.bytes) (by unfold tailWords; rw [if_neg hb0]; simp)
      rw [hexW_len] at this
      omega
  · obtain ⟨y, hy, rfl⟩ := List.mem_map.1 hx
    have := hmem y (by unfold tailWords; simp [hy])
    rw [mk_size]; omega
  · unfold lineOf
    rw [List.length_append, sp_total, e1]
    omega
theorem back_data (t : ByteArray) : (backText t).data.toList = 10 :: 32 :: (t.data.toList ++ [32, 37, 32, 120]) := by
  unfold backText
  rw [ByteArray.data_append, ByteArray.data_append, Array.toList_append, Array.toList_append]
  simp
theorem back_res (c : Cmd) (h : Good 3000 c) : resOf (backText (tl c)) = ([{ c with line := 2 }], 0, 0) := by
  have hf := (fits_good c h).line
  obtain ⟨v, rest, hr, hcl, _⟩ := h
  have e : cmdWords c = v :: rest := (cmd_back v rest _ hr).1
  have hv := hcl v (by simp)
  have hrest : ∀ x ∈ rest, clean x := fun x hx => hcl x (by simp [hx])
  have hline : lineOf c = v ++ sp rest := by
    unfold cmdWords at e
    obtain ⟨e1, e2⟩ := List.cons.inj e
    unfold lineOf
    rw [e1, e2]
  have h37 : ∀ x ∈ v ++ sp rest, x ≠ 37 ∧ x ≠ 10 := fun x hx => by
    rcases List.mem_append.1 hx with hx | hx
    · exact (hv.2 x hx).2
    · exact sp_mem rest hrest x hx
  unfold resOf
  rw [if_neg (by rw [Lib.size_eq, back_data]; unfold tl; rw [mk_data]; simp; omega), back_data]
  unfold tl
  rw [mk_data, hline]
  have hl : lines (10 :: 32 :: (v ++ sp rest ++ [32, 37, 32, 120])) = [[], 32 :: (v ++ sp rest ++ [32, 37, 32, 120])] := by
    rw [lines, if_pos rfl, lines_one _ (fun k hk => ?_)]
    have hm := List.mem_of_getElem? hk
    rcases List.mem_cons.1 hm with h | h
    · exact absurd h (by decide)
    · rcases List.mem_append.1 h with h | h
      · exact (h37 _ h).2 rfl
      · revert h; decide
  have hw : wordsOf (32 :: (v ++ sp rest ++ [32, 37, 32, 120])) = v :: rest := by
    unfold wordsOf
    have ht : (32 :: (v ++ sp rest ++ [32, 37, 32, 120])).takeWhile (fun x : UInt8 => decide (x ≠ 37)) = 32 :: (v ++ sp rest ++ [32]) := by
      rw [List.takeWhile_cons, if_pos (by decide), List.takeWhile_append_of_pos (fun x hx => by simpa using (h37 x hx).1)]
      rfl
    rw [ht, fieldsGo, if_pos (by decide), if_pos rfl, List.append_assoc]
    exact fields_line v rest hv hrest [32] (fun c hc => by rw [List.mem_singleton.1 hc]; rfl)
  rw [hl, parseLines_app, show wordsOf [] = [] from rfl]
  dsimp only
  rw [parseLines_app, hw]
  dsimp only
  rw [hr]
  rfl
end Go.Proofs.YtfiacgkhkonilaaGreatDoor
