/- Part 3 of a proof: Command, Dec, ReadLaws, Fields -/
import Derived.Test.YtfiacgkhkonilaaGreatDoorReadsPart2
import Derived.Deep.RegionHeld3
import Derived.WalkSpells
import Derived.Outline
import Derived.Lib.ItoaMem
import Derived.Lib.ParseIntBTie
import Derived.Test.YtfiacgkhkonilaaGreatDoorPblankx1
import Derived.Lib.TrimUEq
import Derived.OwnWalk
/- The walk of script.command: a line's words as a command. -/
namespace Go.Proofs.YtfiacgkhkonilaaGreatDoor
open Go Go.RowKit Go.Shelf Go.Proofs.YtfiacgkhkonilaaGreatDoorW.PrintWords Go.Proofs.YtfiacgkhkonilaaGreatDoorW.PrintLast Go.Proofs.YtfiacgkhkonilaaGreatDoorW.PrintMore

theorem bcell {W w1 : World} (hb : Below W.heap.size W w1) : (∀ b o, b < W.heap.size → w1.cell? ⟨b, o, none⟩ = W.cell? ⟨b, o, none⟩) ∧ (∀ b o, b < W.heap.size → w1.frozen? ⟨b, o, none⟩ = W.frozen? ⟨b, o, none⟩) :=
  ⟨fun b o h => hb.cell (p := ⟨b, o, none⟩) h, fun b o h => hb.frozen (p := ⟨b, o, none⟩) h⟩

theorem cutS' (xs : List ByteArray) (b off c m : Nat) (hm : m ≤ xs.length) (hc : xs.length ≤ c) :
    ∃ A' : Option Addr, (∀ W : World, (Instr.slice 33 (.slice (some ⟨b, off, none⟩) xs.length c) (some (.int .i64 (m : Int))) none none).run Tryz.prog W = .ok (.slice A' (xs.length - m) (c - m)) W) ∧
      (∀ w : World, Kd.string.C w (some ⟨b, off, none⟩) xs.length xs → Kd.string.C w A' (xs.drop m).length (xs.drop m)) ∧ (∀ ad, A' = some ad → ad.block = b) := by
  obtain ⟨A', h1, h2, h3⟩ := cutS xs (some ⟨b, off, none⟩) c m hm hc
  exact ⟨A', h1, h2, fun ad e => by obtain ⟨a0, e0, e1⟩ := h3 ad e; cases e0; exact e1⟩

theorem cells5 {w : World} {g t : Nat} {a b c d e : Value} (h : w.heap[g]? = some (.cells #[a, b, c, d, e] t (0, 0))) :
    (w.cell? ⟨g, 0, none⟩ = some a ∧ w.cell? ⟨g, 1, none⟩ = some b ∧ w.cell? ⟨g, 2, none⟩ = some c ∧ w.cell? ⟨g, 3, none⟩ = some d ∧ w.cell? ⟨g, 4, none⟩ = some e) ∧
    (w.frozen? ⟨g, 0, none⟩ = false ∧ w.frozen? ⟨g, 1, none⟩ = false ∧ w.frozen? ⟨g, 2, none⟩ = false ∧ w.frozen? ⟨g, 3, none⟩ = false ∧ w.frozen? ⟨g, 4, none⟩ = false) :=
  ⟨⟨blk_cell h 0, blk_cell h 1, blk_cell h 2, blk_cell h 3, blk_cell h 4⟩, ⟨blk_frozen h 0, blk_frozen h 1, blk_frozen h 2, blk_frozen h 3, blk_frozen h 4⟩⟩

def set5 (w : World) (g : Nat) (a b c d e : Value) : World := ((((w.setCell ⟨g, 0, none⟩ a).setCell ⟨g, 1, none⟩ b).setCell ⟨g, 2, none⟩ c).setCell ⟨g, 3, none⟩ d).setCell ⟨g, 4, none⟩ e
theorem set5_heap {w : World} {g t : Nat} {a b c d e a0 b0 c0 d0 e0 : Value} (h : w.heap[g]? = some (.cells #[a0, b0, c0, d0, e0] t (0, 0))) : (set5 w g a b c d e).heap[g]? = some (.cells #[a, b, c, d, e] t (0, 0)) :=
  blk_set (blk_set (blk_set (blk_set (blk_set h 0 a) 1 b) 2 c) 3 d) 4 e
theorem set5_grown (w : World) (g : Nat) (a b c d e : Value) : w.grownBy (set5 w g a b c d e) (some g) :=
  World.grownBy.trans (World.grownBy.trans (World.grownBy.trans (World.grownBy.trans (grown_set w g 0 a) (grown_set _ g 1 b)) (grown_set _ g 2 c)) (grown_set _ g 3 d)) (grown_set _ g 4 e)
theorem set5_size (w : World) (g : Nat) (a b c d e : Value) : (set5 w g a b c d e).heap.size = w.heap.size := by simp [set5]
theorem results22 (tmps : Array Value) (W : World) (D : Nat) (l : Int) (v : ByteArray) (A1 A2 A3 : Option Addr) (n1 n2 n3 c1 c2 c3 : Nat) (x : Bool) (h2 : tmps.getD 2 undef = .pointer (some ⟨D, 0, none⟩)) (h3 : tmps.getD 3 undef = .bool x)
    (h : W.heap[D]? = some (.cells #[.int .i64 l, .string v, .slice A1 n1 c1, .slice A2 n2 c2, .slice A3 n3 c3] 37 (0, 0))) :
    (results Tryz.f22 tmps).run Tryz.prog W = .ok (.tuple #[.agg #[.int .i64 l, .string v, .slice A1 n1 c1, .slice A2 n2 c2, .slice A3 n3 c3], .bool x]) W := by
  obtain ⟨⟨d0, d1, d2, d3, d4⟩, _⟩ := cells5 h
  rw [Array.getD_eq_getD_getElem?] at h2 h3
  simp [results, Tryz.results22, go_sem, h2, h3, d0, d1, d2, d3, d4]

set_option maxRecDepth 100000 in
set_option maxHeartbeats 1000000 in
/-- The verb is none. -/
theorem command_verb (b off cap : Nat) (v : ByteArray) (rs : List ByteArray) (w : World) (hC : Kd.string.C w (some ⟨b, off, none⟩) (v :: rs).length (v :: rs)) (hn : needOf v.data.toList = none) :
    Calls Tryz.prog 22 #[.slice (some ⟨b, off, none⟩) (v :: rs).length cap] w fun e w' => e = .returned (.tuple #[.agg #[.int .i64 0, .string ⟨#[]⟩, .slice none 0 0, .slice none 0 0, .slice none 0 0], .bool false]) ∧ Below w.heap.size w w' := by
  obtain ⟨ad, e0, c0⟩ := Kd.at_string hC 0 (by omega) (by simp)
  cases e0
  have hlt : b < w.heap.size := World.block_lt_of_cell? w _ c0
  have c0' : w.cell? ⟨b, off, none⟩ = some (.string v) := c0
  have HN := Lib.hid (fun W => need_none v W hn)
  have hl1 : (0 : Int) < ((v :: rs).length : Int) := by simp
  generalize (v :: rs).length = len at *
  clear c0 hC hn
  go_enter Tryz.func22, Tryz.ntmps22
  go_wp2_with (go_at_call 36; refine (HN.out _).mono ?_; rintro e w1 ⟨rfl, hb1⟩; have hH := (hb1.block w.heap.size (by simp)).trans (World.alloc_heap_new w _); obtain ⟨⟨d0, d1, d2, d3, d4⟩, ⟨e0, e1, e2, e3, e4⟩⟩ := cells5 hH; have hz1 := hb1.size; simp only [World.size_alloc] at hz1 hb1; have hz2 : w.heap.size < w1.heap.size := hz1; have HB1 := Lib.hid hb1; have HH := Lib.hid hH; clear hb1 hH)
  refine bodyPost_ret (results22 _ _ _ _ _ _ _ _ _ _ _ _ _ _ _ rfl rfl ((Below.heap_alloc _ _ _ (by simp; omega)).trans (set5_heap HH.out))) rfl ⟨rfl, ?_⟩
  have hb : Below w.heap.size w w1 := ((Below.refl _ w).alloc (Nat.le_refl _) _).trans (HB1.out.mono (by omega))
  exact (hb.grown (set5_grown w1 w.heap.size _ _ _ _ _) hb.size (fun k e => by cases e; exact Nat.le_refl _)).alloc (by rw [set5_size]; exact hb.size) _

/-- What command leaves, by the plain definition's answer. -/
def CmdPost (w : World) (o : Option Cmd) (e : Ending) (w' : World) : Prop := Below w.heap.size w w' ∧ match o with
  | some c => ∃ A1 n1 c1 A2 n2 c2 A3 n3 c3, e = .returned (.tuple #[.agg #[.int .i64 0, .string (mk c.verb), .slice A1 n1 c1, .slice A2 n2 c2, .slice A3 n3 c3], .bool true]) ∧
      Kd.string.R 9 w' w.heap.size (fun _ => True) (.slice A1 n1 c1) (c.words.map mk) ∧ (Kd.int .i64).R 2 w' w.heap.size (fun _ => True) (.slice A2 n2 c2) c.nums ∧ (Kd.int .u8).R 5 w' w.heap.size (fun _ => True) (.slice A3 n3 c3) c.bytes
  | none => ∃ l vb A1 n1 c1 A2 n2 c2 A3 n3 c3, e = .returned (.tuple #[.agg #[.int .i64 l, .string vb, .slice A1 n1 c1, .slice A2 n2 c2, .slice A3 n3 c3], .bool false])

theorem results22' (tmps : Array Value) (W : World) (D : Nat) (a b c d e : Value) (x : Bool) (h2 : tmps.getD 2 undef = .pointer (some ⟨D, 0, none⟩)) (h3 : tmps.getD 3 undef = .bool x)
    (h : W.heap[D]? = some (.cells #[a, b, c, d, e] 37 (0, 0))) :
    (results Tryz.f22 tmps).run Tryz.prog W = .ok (.tuple #[.agg #[a, b, c, d, e], .bool x]) W := by
  obtain ⟨⟨d0, d1, d2, d3, d4⟩, _⟩ := cells5 h
  rw [Array.getD_eq_getD_getElem?] at h2 h3
  simp [results, Tryz.results22, go_sem, h2, h3, d0, d1, d2, d3, d4]
theorem R_past {α : Type} {d : Kd α} {e base g t : Nat} {W W1 : World} {ok : Nat → Prop} {v : Value} {xs : List α} {cells : Array Value} (h : d.R e W base ok v xs) (hb : W.heap[g]? = some (.cells cells t (0, 0))) (ht : ∀ q, q ∈ e :: d.E → q ≠ t)
    (hg : W.grownBy W1 (some g)) : d.R e W1 base ok v xs := Kd.R_mono (Kd.R_grown (Kd.R_types h hb ht) hg (fun k hk e => hk.2 (by cases e; rfl))) (fun k hk => hk.1)
/-- The end with a command. -/
theorem cmd_yes {w W : World} {c : Cmd} {vW vN vB z0 z1 z2 z3 z4 : Value} (hb : Below w.heap.size w W) (hz : w.heap.size < W.heap.size) (hD : W.heap[w.heap.size]? = some (.cells #[z0, z1, z2, z3, z4] 37 (0, 0)))
    (hW : Kd.string.R 9 W w.heap.size (fun _ => True) vW (c.words.map mk)) (hN : (Kd.int .i64).R 2 W w.heap.size (fun _ => True) vN c.nums) (hB : (Kd.int .u8).R 5 W w.heap.size (fun _ => True) vB c.bytes) :
    CmdPost w (some c) (.returned (.tuple #[.agg #[.int .i64 0, .string (mk c.verb), vW, vN, vB], .bool true])) (set5 W w.heap.size (.int .i64 0) (.string (mk c.verb)) vW vN vB) := by
  obtain ⟨A1, c1, e1⟩ := Kd.R_slice hW
  obtain ⟨A2, c2, e2⟩ := Kd.R_slice hN
  obtain ⟨A3, c3, e3⟩ := Kd.R_slice hB
  have hg := set5_grown W w.heap.size (.int .i64 0) (.string (mk c.verb)) vW vN vB
  refine ⟨hb.grown hg (by omega) (fun k e => by cases e; exact Nat.le_refl _), A1, _, c1, A2, _, c2, A3, _, c3, by rw [e1, e2, e3], ?_, ?_, ?_⟩
  · rw [← e1]; exact R_past hW hD (by simp [Kd.string, Kd.scalar]) hg
  · rw [← e2]; exact R_past hN hD (by simp [Kd.int, Kd.scalar]) hg
  · rw [← e3]; exact R_past hB hD (by simp [Kd.int, Kd.scalar]) hg
/-- The end with none. -/
theorem cmd_no {w W : World} {l : Int} {vb : ByteArray} {A1 A2 A3 : Option Addr} {n1 n2 n3 c1 c2 c3 : Nat} (hb : Below w.heap.size w W) (hz : w.heap.size < W.heap.size) :
    CmdPost w none (.returned (.tuple #[.agg #[.int .i64 l, .string vb, .slice A1 n1 c1, .slice A2 n2 c2, .slice A3 n3 c3], .bool false])) (set5 W w.heap.size (.int .i64 l) (.string vb) (.slice A1 n1 c1) (.slice A2 n2 c2) (.slice A3 n3 c3)) := by
  have hg := set5_grown W w.heap.size (.int .i64 l) (.string vb) (.slice A1 n1 c1) (.slice A2 n2 c2) (.slice A3 n3 c3)
  exact ⟨hb.grown hg (by omega) (fun k e => by cases e; exact Nat.le_refl _), _, _, _, _, _, _, _, _, _, _, _, rfl⟩

theorem readCmd_need (v : ByteArray) (rs : List ByteArray) {n : Need} (hn : needOf v.data.toList = some n) :
    readCmd ((v :: rs).map (·.data.toList)) = if n.words ≤ rs.length ∧ ∀ x ∈ rs.take n.words, isName x.data.toList = true then
      (if n.bytes then (match rs.drop n.words with | [x] => (bytesWord x.data.toList).map fun b => ⟨0, v.data.toList, (rs.take n.words).map (·.data.toList), [], b⟩ | _ => none)
       else if n.right (rs.drop n.words).length then (numsOf ((rs.drop n.words).map (·.data.toList))).map fun l => ⟨0, v.data.toList, (rs.take n.words).map (·.data.toList), l, []⟩ else none) else none := by
  have e2 : ((rs.map (·.data.toList)).take n.words).all isName = true ↔ ∀ x ∈ rs.take n.words, isName x.data.toList = true := by
    rw [← List.map_take, List.all_map, List.all_eq_true]; rfl
  simp only [List.map_cons, readCmd, hn, List.length_map]
  by_cases h1 : n.words ≤ rs.length
  · rw [if_neg (show ¬ rs.length < n.words by omega)]
    by_cases h2 : ∀ x ∈ rs.take n.words, isName x.data.toList = true
    · have h3 := e2.2 h2
      rw [if_neg (show ¬ ((rs.map (·.data.toList)).take n.words).all isName = false by rw [h3]; simp), if_pos (And.intro h1 h2), ← List.map_take, ← List.map_drop, List.length_map]
      cases hb : n.bytes
      · rfl
      · simp only [if_true]
        match rs.drop n.words with
        | [] => rfl
        | [x] => rfl
        | x :: y :: l => rfl
    · have h3 : ((rs.map (·.data.toList)).take n.words).all isName = false := by
        cases hh : ((rs.map (·.data.toList)).take n.words).all isName
        · rfl
        · exact absurd (e2.1 hh) h2
      rw [if_pos h3, if_neg (fun h => h2 h.2)]
  · rw [if_pos (show rs.length < n.words by omega), if_neg (fun h => h1 h.1)]

theorem map_mk (l : List ByteArray) : (l.map (·.data.toList)).map mk = l := by
  rw [List.map_map]; conv => rhs; rw [← List.map_id l]
  exact List.map_congr_left (fun x _ => mk_of x)
theorem numsOf_yes : ∀ (ws : List ByteArray) (ns : List Int), numsOf (ws.map (·.data.toList)) = some ns → ns.length = ws.length ∧ ∀ k : Nat, k < ws.length → numOf (rdOf ByteArray.empty ws k).data.toList = some (rd ns k)
  | [], ns, h => by cases h; exact ⟨rfl, fun k hk => by simp at hk⟩
  | x :: ws, ns, h => by
    simp only [List.map_cons, numsOf] at h
    split at h
    · cases h
    · rename_i y hy
      cases hr : numsOf (ws.map (·.data.toList)) with
      | none => rw [hr] at h; cases h
      | some l =>
        rw [hr] at h; cases h
        obtain ⟨h1, h2⟩ := numsOf_yes ws l hr
        refine ⟨by simp [h1], fun k hk => ?_⟩
        cases k with
        | zero => exact hy
        | succ k => exact h2 k (by simpa using hk)
theorem numsOf_no : ∀ (ws : List ByteArray), numsOf (ws.map (·.data.toList)) = none → ¬ ∀ k : Nat, k < ws.length → (numOf (rdOf ByteArray.empty ws k).data.toList).isSome = true
  | [], h => by cases h
  | x :: ws, h => by
    simp only [List.map_cons, numsOf] at h
    intro hall
    have h0 := hall 0 (by simp)
    have hr : ∀ k : Nat, k < ws.length → (numOf (rdOf ByteArray.empty ws k).data.toList).isSome = true := fun k hk => hall (k + 1) (by simpa using hk)
    split at h
    · rename_i hy
      have h0' : (numOf x.data.toList).isSome = true := h0
      rw [hy] at h0'; cases h0'
    · cases hn : numsOf (ws.map (·.data.toList)) with
      | none => exact numsOf_no ws hn hr
      | some l => rw [hn] at h; cases h
set_option maxRecDepth 100000 in
set_option maxHeartbeats 1000000 in
/-- The verb is one. -/
theorem command_need (b off cap : Nat) (v : ByteArray) (rs : List ByteArray) (n : Need) (w : World) (hC : Kd.string.C w (some ⟨b, off, none⟩) (v :: rs).length (v :: rs)) (hcap : (v :: rs).length ≤ cap) (hn : needOf v.data.toList = some n)
    (hl : rs.length < 4294967295) (hsz : ∀ x ∈ rs, x.size ≤ 140737488351232) (henv : Env w) :
    Calls Tryz.prog 22 #[.slice (some ⟨b, off, none⟩) (v :: rs).length cap] w (CmdPost w (readCmd ((v :: rs).map (·.data.toList)))) := by
  obtain ⟨ad, e0, c0⟩ := Kd.at_string hC 0 (by omega) (by simp)
  cases e0
  have hlt : b < w.heap.size := World.block_lt_of_cell? w _ c0
  have c0' : w.cell? ⟨b, off, none⟩ = some (.string v) := c0
  have HN := Lib.hid (fun W => need_any v W n hn)
  have hl1 : (0 : Int) < ((v :: rs).length : Int) := by simp
  have hl2 : (1 : Int) ≤ ((v :: rs).length : Int) := by simp; omega
  obtain ⟨A', hcut, hcutC, hcutB⟩ := cutS' (v :: rs) b off cap 1 (by simp) hcap
  have HCC := Lib.hid hcutC
  have HCB := Lib.hid hcutB
  have hcut1 : ∀ W : World, (Instr.slice 33 (.slice (some ⟨b, off, none⟩) (v :: rs).length cap) (some (.int .i64 1)) none none).run Tryz.prog W = .ok (.slice A' ((v :: rs).length - 1) (cap - 1)) W := hcut
  have hlr : (v :: rs).length - 1 = rs.length := by simp
  rw [hlr] at hcut1
  have HC := Lib.hid hC
  have hcr : rs.length ≤ cap - 1 := by rw [List.length_cons] at hcap; omega
  have hrd := readCmd_need v rs hn
  have h9 := henv.size
  have HRD := Lib.hid hrd
  have HE := Lib.hid henv
  generalize (v :: rs).length = len at hcut1 hl1 hl2 hcap ⊢
  clear c0 hC hn hcut hcutC hcutB hlr hrd henv
  go_enter Tryz.func22, Tryz.ntmps22
  go_wp2_with fail
  go_at_call 36
  refine (HN.out _).mono ?_
  rintro e w1 ⟨rfl, hb1⟩
  have hH := (hb1.block w.heap.size (by simp)).trans (World.alloc_heap_new w _)
  obtain ⟨⟨d0, d1, d2, d3, d4⟩, ⟨e0, e1, e2, e3, e4⟩⟩ := cells5 hH
  have hz1 := hb1.size
  simp only [World.size_alloc] at hz1 hb1
  have hz2 : w.heap.size < w1.heap.size := hz1
  have HB1 := Lib.hid hb1
  have HH := Lib.hid hH
  have c1 : w1.cell? ⟨b, off, none⟩ = some (.string v) := (hb1.cell (p := ⟨b, off, none⟩) (show b < w.heap.size + 1 by omega)).trans ((World.cell?_alloc_lt w _ ⟨b, off, none⟩ hlt).trans c0')
  have hb3 : b < w1.heap.size := by omega
  clear hb1 hH
  go_wp2_with fail
  generalize hW5 : (w1.alloc (.cells #[.int .i64 n.words, .bool n.bytes, .int .i64 n.least, .int .i64 n.most, .bool n.unpaired, .bool true] 73)).alloc (.cells #[.int .i64 0, .string v, .slice none 0 0, .slice none 0 0, .slice none 0 0] 37) = W5
  have hb5 : Below w1.heap.size w1 W5 := by rw [← hW5]; exact ((Below.refl _ _).alloc (Nat.le_refl _) _).alloc (by simp) _
  have hz5 : W5.heap.size = w1.heap.size + 2 := by rw [← hW5]; simp
  have hn5 : W5.heap[w1.heap.size]? = some (.cells #[.int .i64 n.words, .bool n.bytes, .int .i64 n.least, .int .i64 n.most, .bool n.unpaired, .bool true] 73 (0, 0)) := by
    rw [← hW5]; exact (Below.heap_alloc _ _ _ (by simp)).trans (World.alloc_heap_new w1 _)
  have hc5 : W5.heap[w1.heap.size + 1]? = some (.cells #[.int .i64 0, .string v, .slice none 0 0, .slice none 0 0, .slice none 0 0] 37 (0, 0)) := by
    rw [← hW5]; have := World.alloc_heap_new (w1.alloc (.cells #[.int .i64 n.words, .bool n.bytes, .int .i64 n.least, .int .i64 n.most, .bool n.unpaired, .bool true] 73)) (.cells #[.int .i64 0, .string v, .slice none 0 0, .slice none 0 0, .slice none 0 0] 37)
    rwa [World.size_alloc] at this
  have cn : W5.cell? ⟨w1.heap.size, 0, none⟩ = some (.int .i64 n.words) := blk_cell hn5 0
  have hw5 : Below w.heap.size w W5 := (((Below.refl _ w).alloc (Nat.le_refl _) _).trans (HB1.out.mono (by omega))).trans (hb5.mono (by omega))
  have HC5 := Lib.hid (HCC.out W5 (Kd.C_below HC.out hw5))
  have HN5 := Lib.hid hn5
  have HK5 := Lib.hid hc5
  have HB5 := Lib.hid hb5
  have HW5 := Lib.hid hw5
  clear hn5 hc5 hb5 hW5 hw5
  have hfar : ∀ ad, A' = some ad → 0 < rs.length → ad.block ≠ w1.heap.size + 1 := fun ad e _ => by have := HCB.out ad e; omega
  have HFR := Lib.hid hfar
  have HCR := Lib.hid hcr
  clear hfar hcr
  by_cases hnm : n.words ≤ rs.length ∧ ∀ x ∈ rs.take n.words, isName x.data.toList = true
  · have hyes := names_yes (w1.heap.size + 1) A' (cap - 1) n.words 0 v (.slice none 0 0) (.slice none 0 0) rs W5.drew HK5.out (Kd.C_below HC5.out (Below.refl _ _).drew) HCR.out HFR.out hnm.1 (by omega) hsz hnm.2
    obtain ⟨m, hm⟩ : ∃ m, rs.length - n.words = m := ⟨_, rfl⟩
    rw [hm] at hyes
    have HNY := Lib.hid hyes
    have HNM := Lib.hid hnm
    clear hyes hnm
    go_region_held3 (fun w' => w'.cell? ⟨w1.heap.size, 0, none⟩ = some (.int .i64 n.words))
      (first | go_keep | exact ck)
      ((go_at_call 37; refine HNY.out.mono ?_; rintro e W6 ⟨A2, vW, rfl, hC6, hf6, hc6, hR6, hg6⟩; have ck : W6.cell? ⟨w1.heap.size, 0, none⟩ = some (.int .i64 n.words) := blk_cell (blk_grown (w := W5.drew) HN5.out hg6 (by simp)) 0))
    rename_i hHeld
    obtain ⟨A3, c3, rfl⟩ := Kd.R_slice hR6
    have hD6 : W6.heap[w.heap.size]? = some (.cells #[.int .i64 0, .string ⟨#[]⟩, .slice none 0 0, .slice none 0 0, .slice none 0 0] 37 (0, 0)) :=
      blk_grown (w := W5.drew) ((HB5.out.block _ hz2).trans HH.out) hg6 (by simp; omega)
    have hN6 := blk_grown (w := W5.drew) HN5.out hg6 (by simp)
    obtain ⟨⟨d0, d1, d2, d3, d4⟩, ⟨e0, e1, e2, e3, e4⟩⟩ := cells5 hD6
    have HD6 := Lib.hid hD6
    have HG6 := Lib.hid hg6
    have HC6 := Lib.hid hC6
    have HF6 := Lib.hid hf6
    have HK6 := Lib.hid hc6
    have HR6 := Lib.hid hR6
    have hs6 := hg6.size
    have hs6' : w1.heap.size + 1 < W6.heap.size := by have : W5.heap.size ≤ W6.heap.size := hs6; omega
    have hb6 : Below w.heap.size w W6 := HW5.out.drew.grown hg6 HW5.out.drew.size (fun k e => by cases e; omega)
    have HB6 := Lib.hid hb6
    have n1 : W6.cell? ⟨w1.heap.size, 1, none⟩ = some (.bool n.bytes) := blk_cell hN6 1
    have HN6 := Lib.hid hN6
    clear hg6 hs6 hD6 hHeld hC6 hf6 hc6 hR6 hN6 hb6
    have hml : (rs.drop n.words).length = m := by rw [List.length_drop, hm]
    have HML := Lib.hid hml
    have hmb : m < 4294967295 := by omega
    clear hml hm
    cases hby : n.bytes
    · have n1 : W6.cell? ⟨w1.heap.size, 1, none⟩ = some (.bool false) := by rw [← hby]; exact n1
      have n2 : W6.cell? ⟨w1.heap.size, 2, none⟩ = some (.int .i64 n.least) := blk_cell HN6.out 2
      have n3 : W6.cell? ⟨w1.heap.size, 3, none⟩ = some (.int .i64 n.most) := blk_cell HN6.out 3
      have n4 : W6.cell? ⟨w1.heap.size, 4, none⟩ = some (.bool n.unpaired) := blk_cell HN6.out 4
      have n5 : W6.cell? ⟨w1.heap.size, 5, none⟩ = some (.bool true) := blk_cell HN6.out 5
      have hr := right_any n m W6
      rw [hby] at hr
      rcases hrt : n.right m with _ | _
      · rw [hrt] at hr
        have HRI := Lib.hid hr
        have HRT := Lib.hid hrt
        clear hr hrt
        go_wp2_with (go_at_call 39; refine HRI.out.mono ?_; rintro e W7 ⟨rfl, hb7⟩; have hK7 := (hb7.block (w1.heap.size + 1) hs6').trans HK6.out; have hD7 := (hb7.block w.heap.size (by omega)).trans HD6.out; obtain ⟨⟨k0, k1, k2, k3, k4⟩, _⟩ := cells5 hK7; obtain ⟨⟨d0, d1, d2, d3, d4⟩, ⟨e0, e1, e2, e3, e4⟩⟩ := cells5 hD7; have HB7 := Lib.hid hb7; have HD7 := Lib.hid hD7; clear hb7 hK7 hD7)
        refine bodyPost_ret (results22' _ _ w.heap.size _ _ _ _ _ _ rfl rfl (set5_heap HD7.out)) rfl ?_
        rw [HRD.out, if_pos HNM.out, if_neg (by rw [hby]; simp), HML.out, if_neg (by rw [HRT.out]; simp)]
        exact cmd_no (HB6.out.trans (HB7.out.mono (by omega))) (by have := HB7.out.size; omega)
      · rw [hrt] at hr
        have HRI := Lib.hid hr
        have HRT := Lib.hid hrt
        clear hr hrt
        rcases hns : numsOf ((rs.drop n.words).map (·.data.toList)) with _ | ns
        · have q2 := numsOf_no _ hns
          have HQ2 := Lib.hid q2
          have HNS := Lib.hid hns
          clear q2 hns
          go_wp2_with (first
            | (go_at_call 39; refine HRI.out.mono ?_; rintro e W7 ⟨rfl, hb7⟩; have hK7 := (hb7.block (w1.heap.size + 1) hs6').trans HK6.out; have hD7 := (hb7.block w.heap.size (by omega)).trans HD6.out; have hC7 := Kd.C_below HC6.out hb7; have hnum := numbers_no (w1.heap.size + 1) A2 (cap - 1 - n.words) 0 v _ (.slice none 0 0) (rs.drop n.words) W7 (HE.out.below (HB6.out.trans (hb7.mono (by omega)))) (by omega) hK7 hC7 HF6.out (by rw [HML.out]; omega) (fun x hx => hsz x (List.mem_of_mem_drop hx)) HQ2.out; rw [HML.out] at hnum; have HNU := Lib.hid hnum; have HB7 := Lib.hid hb7; have HD7 := Lib.hid hD7; clear hb7 hK7 hD7 hC7 hnum)
            | (go_at_call 40; refine HNU.out.mono ?_; rintro e W8 ⟨vN, rfl, hK8, ⟨ns, hR8⟩, hg8⟩; obtain ⟨A4, c4, rfl⟩ := Kd.R_slice hR8; have hD8 := blk_grown HD7.out hg8 (by simp; omega); obtain ⟨⟨k0, k1, k2, k3, k4⟩, _⟩ := cells5 hK8; obtain ⟨⟨d0, d1, d2, d3, d4⟩, ⟨e0, e1, e2, e3, e4⟩⟩ := cells5 hD8; have HG8 := Lib.hid hg8; have HD8 := Lib.hid hD8; clear hg8 hD8 hK8 hR8))
          refine bodyPost_ret (results22' _ _ w.heap.size _ _ _ _ _ _ rfl rfl (set5_heap HD8.out)) rfl ?_
          rw [HRD.out, if_pos HNM.out, if_neg (by rw [hby]; simp), HML.out, if_pos HRT.out, HNS.out]
          have hb7 := HB6.out.trans (HB7.out.mono (by omega))
          exact cmd_no (hb7.grown HG8.out hb7.size (fun k e => by cases e; omega)) (by have := HB7.out.size; have := HG8.out.size; omega)
        · obtain ⟨q1, q2⟩ := numsOf_yes _ _ hns
          have HQ1 := Lib.hid q1
          have HQ2 := Lib.hid q2
          have HNS := Lib.hid hns
          clear q1 q2 hns
          go_wp2_with (first
            | (go_at_call 39; refine HRI.out.mono ?_; rintro e W7 ⟨rfl, hb7⟩; have hK7 := (hb7.block (w1.heap.size + 1) hs6').trans HK6.out; have hD7 := (hb7.block w.heap.size (by omega)).trans HD6.out; have hC7 := Kd.C_below HC6.out hb7; have hnum := numbers_yes (w1.heap.size + 1) A2 (cap - 1 - n.words) 0 v _ (.slice none 0 0) (rs.drop n.words) ns W7 (HE.out.below (HB6.out.trans (hb7.mono (by omega)))) (by omega) hK7 hC7 HF6.out (by rw [HML.out]; omega) (fun x hx => hsz x (List.mem_of_mem_drop hx)) HQ1.out HQ2.out; rw [HML.out] at hnum; have HNU := Lib.hid hnum; have HB7 := Lib.hid hb7; have HD7 := Lib.hid hD7; have HK7 := Lib.hid hK7; clear hb7 hK7 hD7 hC7 hnum)
            | (go_at_call 40; refine HNU.out.mono ?_; rintro e W8 ⟨vN, rfl, hK8, hR8, hg8⟩; obtain ⟨A4, c4, rfl⟩ := Kd.R_slice hR8; have hD8 := blk_grown HD7.out hg8 (by simp; omega); obtain ⟨⟨k0, k1, k2, k3, k4⟩, _⟩ := cells5 hK8; obtain ⟨⟨d0, d1, d2, d3, d4⟩, ⟨e0, e1, e2, e3, e4⟩⟩ := cells5 hD8; have HG8 := Lib.hid hg8; have HD8 := Lib.hid hD8; have HR8 := Lib.hid hR8; clear hg8 hD8 hK8 hR8))
          refine bodyPost_ret (results22' _ _ w.heap.size _ _ _ _ _ _ rfl rfl (set5_heap HD8.out)) rfl ?_
          rw [HRD.out, if_pos HNM.out, if_neg (by rw [hby]; simp), HML.out, if_pos HRT.out, HNS.out]
          have hb7 := HB6.out.trans (HB7.out.mono (by omega))
          have hz7 := HB7.out.size
          have hz8 := HG8.out.size
          have hz5' : w.heap.size ≤ W5.drew.heap.size := by show w.heap.size ≤ W5.heap.size; omega
          have h := cmd_yes (w := w) (W := W8) (c := ⟨0, v.data.toList, (rs.take n.words).map (·.data.toList), ns, []⟩) (hb7.grown HG8.out hb7.size (fun k e => by cases e; omega)) (by omega) HD8.out
            (by rw [map_mk]; exact R_past (Kd.R_below (Kd.R_lower HR6.out hz5') HB7.out) HK7.out (by simp [Kd.string, Kd.scalar]) HG8.out) (Kd.R_lower HR8.out (by omega)) (Kd.R_nil _ _ _ _ _)
          rw [mk_of] at h
          simp only [List.length_take] at h
          exact h
    · have n1 : W6.cell? ⟨w1.heap.size, 1, none⟩ = some (.bool true) := by rw [← hby]; exact n1
      by_cases h1 : m = 1
      · subst h1
        obtain ⟨ad, rfl, hcell⟩ := Kd.at_string HC6.out 0 (by omega) (by rw [HML.out]; omega)
        have hcell1 : W6.cell? ad = some (.string (rdOf ByteArray.empty (rs.drop n.words) 0)) := by cases ad; exact hcell
        have hone : rs.drop n.words = [rdOf ByteArray.empty (rs.drop n.words) 0] := by
          obtain ⟨y, hy⟩ := List.length_eq_one_iff.1 HML.out
          rw [hy]; rfl
        have hxs : (rdOf ByteArray.empty (rs.drop n.words) 0).size ≤ 140737488351232 := hsz _ (List.mem_of_mem_drop (by rw [hone]; simp [rdOf]))
        generalize rdOf ByteArray.empty (rs.drop n.words) 0 = x at *
        have HON := Lib.hid hone
        have HXS := Lib.hid hxs
        clear hone hcell hxs
        obtain ⟨⟨k0, k1, k2, k3, k4⟩, ⟨f0, f1, f2, f3, f4⟩⟩ := cells5 HK6.out
        rcases hbw : bytesWord x.data.toList with _ | l
        · have HBW := Lib.hid hbw
          have HDG := Lib.hid (digits_no x W6 HXS.out hbw)
          clear hbw
          go_wp2_with (go_at_call 38; refine HDG.out.mono ?_; rintro e W7 ⟨rfl, hb7⟩; have hK7 := (hb7.block (w1.heap.size + 1) hs6').trans HK6.out; have hD7 := (hb7.block w.heap.size (by omega)).trans HD6.out; obtain ⟨⟨k0, k1, k2, k3, k4⟩, ⟨f0, f1, f2, f3, f4⟩⟩ := cells5 hK7; obtain ⟨⟨d0, d1, d2, d3, d4⟩, ⟨e0, e1, e2, e3, e4⟩⟩ := cells5 hD7; have HB7 := Lib.hid hb7; have HD7 := Lib.hid hD7; have HK7 := Lib.hid hK7; clear hb7 hK7 hD7)
          have hb7 := HB6.out.trans (HB7.out.mono (by omega))
          have hz7 := HB7.out.size
          have hD9 := blk_far HD7.out (g := w.heap.size) (p := ⟨w1.heap.size + 1, 4, none⟩) (by simp; omega) (.slice none 0 0)
          refine bodyPost_ret (results22' _ _ w.heap.size _ _ _ _ _ _ rfl rfl (set5_heap hD9)) rfl ?_
          rw [HRD.out, if_pos HNM.out, if_pos hby, HON.out]
          simp only [HBW.out, Option.map_none]
          exact cmd_no (hb7.setCell (by simp; omega) _) (by simp; omega)
        · have HBW := Lib.hid hbw
          have HDG := Lib.hid (digits_yes x l W6 HXS.out hbw)
          clear hbw
          go_wp2_with (go_at_call 38; refine HDG.out.mono ?_; rintro e W7 ⟨vB, rfl, hR7, hb7⟩; obtain ⟨A4, c4, rfl⟩ := Kd.R_slice hR7; have hK7 := (hb7.block (w1.heap.size + 1) hs6').trans HK6.out; have hD7 := (hb7.block w.heap.size (by omega)).trans HD6.out; obtain ⟨⟨k0, k1, k2, k3, k4⟩, ⟨f0, f1, f2, f3, f4⟩⟩ := cells5 hK7; obtain ⟨⟨d0, d1, d2, d3, d4⟩, ⟨e0, e1, e2, e3, e4⟩⟩ := cells5 hD7; have HB7 := Lib.hid hb7; have HD7 := Lib.hid hD7; have HK7 := Lib.hid hK7; have HR7 := Lib.hid hR7; clear hb7 hK7 hD7 hR7)
          have hb7 := HB6.out.trans (HB7.out.mono (by omega))
          have hz7 := HB7.out.size
          have hD9 := blk_far HD7.out (g := w.heap.size) (p := ⟨w1.heap.size + 1, 4, none⟩) (by simp; omega) (.slice A4 l.length c4)
          refine bodyPost_ret (results22' _ _ w.heap.size _ _ _ _ _ _ rfl rfl (set5_heap hD9)) rfl ?_
          rw [HRD.out, if_pos HNM.out, if_pos hby, HON.out]
          simp only [HBW.out, Option.map_some]
          have hz5' : w.heap.size ≤ W5.drew.heap.size := by show w.heap.size ≤ W5.heap.size; omega
          have hg9 := grown_set W7 (w1.heap.size + 1) 4 (.slice A4 l.length c4)
          have h := cmd_yes (w := w) (W := W7.setCell ⟨w1.heap.size + 1, 4, none⟩ (.slice A4 l.length c4)) (c := ⟨0, v.data.toList, (rs.take n.words).map (·.data.toList), [], l⟩) (hb7.setCell (by simp; omega) _) (by simp; omega) hD9
            (by rw [map_mk]; exact R_past (Kd.R_below (Kd.R_lower HR6.out hz5') HB7.out) HK7.out (by simp [Kd.string, Kd.scalar]) hg9) (Kd.R_nil _ _ _ _ _) (R_past (Kd.R_lower HR7.out (by omega)) HK7.out (by simp [Kd.int, Kd.scalar]) hg9)
          rw [mk_of] at h
          simp only [List.length_take] at h
          exact h
      · have h1' : ((m : Int) != 1) = true := by rw [bne_iff_ne]; omega
        go_wp2
        refine bodyPost_ret (results22' _ _ w.heap.size _ _ _ _ _ _ rfl rfl (set5_heap HD6.out)) rfl ?_
        rw [HRD.out, if_pos HNM.out, if_pos hby]
        split
        · rename_i y hy
          have := HML.out; rw [hy] at this; simp at this; omega
        · exact cmd_no HB6.out (by omega)
  · have hno : ∀ W, Below W5.heap.size W5 W → Calls Tryz.prog 37 #[.pointer (some ⟨w1.heap.size + 1, 0, none⟩), .slice A' rs.length (cap - 1), .int .i64 n.words] W fun e w' => e = .returned (.tuple #[.slice none 0 0, .bool false]) ∧ W.grownBy w' (some (w1.heap.size + 1)) := by
      intro W hW
      by_cases h1 : n.words ≤ rs.length
      · exact names_no _ _ _ _ 0 v (.slice none 0 0) (.slice none 0 0) rs W ((hW.block _ (by omega)).trans HK5.out) (Kd.C_below HC5.out hW) HCR.out HFR.out h1 (by omega) hsz (fun h => hnm ⟨h1, h⟩)
      · exact (names_short _ _ _ _ _ W (by omega)).mono fun e w' ⟨h, hw⟩ => ⟨h, by rw [hw]; exact grown_refl _ _⟩
    have HNO := Lib.hid (hno W5.drew ((Below.refl _ _).drew))
    have HNM := Lib.hid hnm
    clear hno hnm
    go_region_held3 (fun w' => w'.cell? ⟨w1.heap.size, 0, none⟩ = some (.int .i64 n.words))
      (first | go_keep | exact ck)
      ((go_at_call 37; refine HNO.out.mono ?_; rintro e W6 ⟨rfl, hg6⟩; have ck : W6.cell? ⟨w1.heap.size, 0, none⟩ = some (.int .i64 n.words) := blk_cell (blk_grown (w := W5.drew) HN5.out hg6 (by simp)) 0))
    rename_i hHeld
    have hD6 : W6.heap[w.heap.size]? = some (.cells #[.int .i64 0, .string ⟨#[]⟩, .slice none 0 0, .slice none 0 0, .slice none 0 0] 37 (0, 0)) :=
      blk_grown (w := W5.drew) ((HB5.out.block _ hz2).trans HH.out) hg6 (by simp; omega)
    obtain ⟨⟨d0, d1, d2, d3, d4⟩, ⟨e0, e1, e2, e3, e4⟩⟩ := cells5 hD6
    have HD6 := Lib.hid hD6
    have HG6 := Lib.hid hg6
    have hs6 := hg6.size
    have hs6' : w.heap.size < W6.heap.size := by have : W5.heap.size ≤ W6.heap.size := hs6; omega
    clear hg6 hs6 hD6 hHeld
    go_wp2
    refine bodyPost_ret (results22 _ _ w.heap.size 0 ⟨#[]⟩ none none none 0 0 0 0 0 0 false rfl rfl (set5_heap HD6.out)) rfl ?_
    rw [HRD.out, if_neg HNM.out]
    refine ⟨?_, 0, ⟨#[]⟩, none, 0, 0, none, 0, 0, none, 0, 0, rfl⟩
    exact (HW5.out.drew.grown HG6.out HW5.out.drew.size (fun k e => by cases e; omega)).grown (set5_grown W6 w.heap.size _ _ _ _ _) (by omega) (fun k e => by cases e; exact Nat.le_refl _)
/-- script.command. -/
theorem command_any (b off cap : Nat) (v : ByteArray) (rs : List ByteArray) (w : World) (hC : Kd.string.C w (some ⟨b, off, none⟩) (v :: rs).length (v :: rs)) (hcap : (v :: rs).length ≤ cap)
    (hl : rs.length < 4294967295) (hsz : ∀ x ∈ rs, x.size ≤ 140737488351232) (henv : Env w) :
    Calls Tryz.prog 22 #[.slice (some ⟨b, off, none⟩) (v :: rs).length cap] w (CmdPost w (readCmd ((v :: rs).map (·.data.toList)))) := by
  rcases hn : needOf v.data.toList with _ | n
  · have e : readCmd ((v :: rs).map (·.data.toList)) = none := by simp only [List.map_cons, readCmd, hn]
    rw [e]
    exact (command_verb b off cap v rs w hC hn).mono fun e w' ⟨h, hb⟩ => ⟨hb, _, _, _, _, _, _, _, _, _, _, _, h⟩
  · exact command_need b off cap v rs n w hC hcap hn hl hsz henv
end Go.Proofs.YtfiacgkhkonilaaGreatDoor

/- Decimal numbers: which words are numbers, twice told; no program in sight. -/
namespace Go.Proofs.YtfiacgkhkonilaaGreatDoor
open Go Go.Lib

def dstep (a : Nat) (c : UInt8) : Nat := a * 10 + (c.toNat - 48)
def dval (acc : Nat) (l : B) : Nat := l.foldl dstep acc
theorem dval_nil (acc : Nat) : dval acc [] = acc := rfl
theorem dval_cons (acc : Nat) (c : UInt8) (r : B) : dval acc (c :: r) = dval (acc * 10 + (c.toNat - 48)) r := by
  unfold dval
  rw [List.foldl_cons]
  rfl
def isDig (c : UInt8) : Bool := decide (48 ≤ c.toNat) && decide (c.toNat ≤ 57)
def allDig (l : B) : Bool := l.all isDig
theorem dval_app (a b : B) (acc : Nat) : dval acc (a ++ b) = dval (dval acc a) b := by
  unfold dval
  rw [List.foldl_append]
theorem dval_acc (l : B) (acc : Nat) : dval acc l = acc * 10 ^ l.length + dval 0 l := by
  induction l generalizing acc with
  | nil => simp [dval_nil]
  | cons c r ih =>
    rw [dval_cons, dval_cons, ih, ih (0 * 10 + (c.toNat - 48)), List.length_cons, Nat.pow_succ, Nat.add_mul, Nat.zero_mul, Nat.zero_add]
    have : acc * 10 * 10 ^ r.length = acc * (10 ^ r.length * 10) := by rw [Nat.mul_assoc, Nat.mul_comm 10]
    omega
theorem dval_le (l : B) (acc : Nat) : acc ≤ dval acc l := by
  rw [dval_acc]
  have : acc * 1 ≤ acc * 10 ^ l.length := Nat.mul_le_mul_left _ (Nat.one_le_pow _ _ (by omega))
  omega
theorem dval_lt : ∀ (l : B), allDig l = true → dval 0 l < 10 ^ l.length
  | [], _ => by simp [dval_nil]
  | c :: r, h => by
    simp only [allDig, List.all_cons, Bool.and_eq_true] at h
    have h2 := dval_lt r h.2
    have h1 := h.1
    simp only [isDig, Bool.and_eq_true, decide_eq_true_eq] at h1
    rw [dval_cons, dval_acc, List.length_cons, Nat.pow_succ]
    have : (0 * 10 + (c.toNat - 48)) * 10 ^ r.length ≤ 9 * 10 ^ r.length := Nat.mul_le_mul_right _ (by omega)
    omega
theorem dig_of (u : Nat) (h : u < 10) : isDig (UInt8.ofNat (48 + u)) = true ∧ (UInt8.ofNat (48 + u)).toNat = 48 + u := by
  have : ∀ n, n < 10 → isDig (UInt8.ofNat (48 + n)) = true ∧ (UInt8.ofNat (48 + n)).toNat = 48 + n := by decide
  exact this u h
/-- What decDigits gives. -/
theorem dec_facts (u : Nat) : allDig (decDigits u) = true ∧ dval 0 (decDigits u) = u ∧ decDigits u ≠ [] ∧ (10 ≤ u → 10 ^ ((decDigits u).length - 1) ≤ u ∧ 2 ≤ (decDigits u).length) ∧ (u = 0 ∨ (decDigits u).head? ≠ some 48) := by
  induction u using Nat.strongRecOn with
  | _ u ih =>
    rw [decDigits]
    split
    · rename_i h
      obtain ⟨h1, h2⟩ := dig_of u h
      refine ⟨by simp only [allDig, List.all_cons, h1, List.all_nil, Bool.and_self], by simp only [dval_cons, dval_nil, h2]; omega, by simp, fun h' => by omega, ?_⟩
      rcases Nat.eq_zero_or_pos u with h0 | h0
      · exact .inl h0
      · refine .inr fun e => ?_
        have := congrArg UInt8.toNat (Option.some.inj (show some (UInt8.ofNat (48 + u)) = some 48 from e))
        rw [h2] at this
        have e48 : (48 : UInt8).toNat = 48 := rfl
        omega
    · rename_i h
      obtain ⟨h1, h2, h3, h4, h5⟩ := ih (u / 10) (by omega)
      obtain ⟨g1, g2⟩ := dig_of (u % 10) (by omega)
      have hl : 1 ≤ (decDigits (u / 10)).length := by
        cases hd : decDigits (u / 10) with
        | nil => exact absurd hd h3
        | cons a l => simp
      refine ⟨?_, ?_, by simp, fun _ => ⟨?_, ?_⟩, .inr ?_⟩
      · simp only [allDig, List.all_append, List.all_cons, List.all_nil, Bool.and_true, Bool.and_eq_true]
        exact ⟨h1, g1⟩
      · rw [dval_app, h2]; simp only [dval_cons, dval_nil, g2]; omega
      · rw [List.length_append, List.length_singleton, Nat.add_sub_cancel]
        by_cases h10 : 10 ≤ u / 10
        · have := (h4 h10).1
          obtain ⟨k, hk⟩ : ∃ k, (decDigits (u / 10)).length = k + 1 := ⟨_, (Nat.sub_add_cancel hl).symm⟩
          rw [hk] at this ⊢
          rw [Nat.pow_succ]
          simp only [Nat.add_sub_cancel] at this
          omega
        · have : (decDigits (u / 10)).length = 1 := by rw [decDigits, dif_pos (by omega)]; rfl
          rw [this]; omega
      · rw [List.length_append, List.length_singleton]; omega
      · rcases h5 with h5 | h5
        · omega
        · cases hd : decDigits (u / 10) with
          | nil => exact absurd hd h3
          | cons a l => rw [hd] at h5; simpa using h5
/-- Digits without a needless 0 are those of their value. -/
theorem dec_of_val : ∀ (n : Nat) (l : B), l.length = n → allDig l = true → l ≠ [] → (l.head? ≠ some 48 ∨ l.length = 1) → decDigits (dval 0 l) = l := by
  intro n
  induction n using Nat.strongRecOn with
  | _ n ih =>
    intro l hn ha hne hh
    rcases List.eq_nil_or_concat l with h | ⟨r, c, hl⟩
    · exact absurd h hne
    · rw [List.concat_eq_append] at hl
      subst hl
      simp only [allDig, List.all_append, List.all_cons, List.all_nil, Bool.and_true, Bool.and_eq_true] at ha
      have hc := ha.2
      simp only [isDig, Bool.and_eq_true, decide_eq_true_eq] at hc
      have hcc : UInt8.ofNat (48 + (c.toNat - 48)) = c := by rw [show 48 + (c.toNat - 48) = c.toNat by omega]; simp
      rw [dval_app]
      cases r with
      | nil =>
        simp only [dval_cons, dval_nil, List.nil_append]
        rw [decDigits, dif_pos (by omega)]
        simp only [Nat.zero_mul, Nat.zero_add]
        rw [hcc]
      | cons a r =>
        have hh' : a ≠ 48 := by
          rcases hh with h | h
          · simpa using h
          · simp at h
        have hda : isDig a = true := by have := ha.1; simp at this; exact this.1
        simp only [isDig, Bool.and_eq_true, decide_eq_true_eq] at hda
        have ha48 : a.toNat ≠ 48 := fun e => hh' (UInt8.toNat.inj e)
        have ihr := ih (a :: r).length (by rw [← hn]; simp) (a :: r) rfl ha.1 (by simp) (.inl (by simpa using hh'))
        have hpos : 1 ≤ dval 0 (a :: r) := by
          rw [dval_cons]
          have := dval_le r (0 * 10 + (a.toNat - 48))
          omega
        generalize hv : dval 0 (a :: r) = v at *
        simp only [dval_cons, dval_nil]
        rw [decDigits, dif_neg (by omega), show (v * 10 + (c.toNat - 48)) / 10 = v by omega, show (v * 10 + (c.toNat - 48)) % 10 = c.toNat - 48 by omega, ihr, hcc]

/-- parseUintM over digits. -/
theorem parseM_ok : ∀ (l : B) (acc M : Nat), allDig l = true → M < 18446744073709551616 → dval acc l ≤ M → parseUintM M acc l = .ok (dval acc l)
  | [], _, _, _, _, _ => rfl
  | c :: r, acc, M, h, hM, hv => by
    simp only [allDig, List.all_cons, Bool.and_eq_true] at h
    have h1 := h.1
    simp only [isDig, Bool.and_eq_true, decide_eq_true_eq] at h1
    rw [dval_cons] at hv
    have h2 := dval_le r (acc * 10 + (c.toNat - 48))
    rw [parseUintM, if_pos h1, if_neg (by omega), if_neg (by omega), dval_cons]
    exact parseM_ok r _ M h.2 hM hv

/-- The document's way to read a number. -/
def refNum (w : B) : Option Int :=
  let minus := decide (1 < w.length) && decide (w.head? = some 45)
  let t := if minus then w.tail else w
  if t = [] ∨ 19 < t.length ∨ (t.head? = some 48 ∧ (1 < t.length ∨ minus = true)) then none
  else if allDig t = false then none
  else if 9223372036854775808 < dval 0 t ∨ (dval 0 t = 9223372036854775808 ∧ minus = false) then none
  else some (if minus then -(dval 0 t : Int) else dval 0 t)

theorem dec_len (u : Nat) (h : u ≤ 9223372036854775808) : (decDigits u).length ≤ 19 := by
  obtain ⟨_, _, _, h4, _⟩ := dec_facts u
  by_cases h10 : 10 ≤ u
  · have h5 := (h4 h10).1
    rcases Nat.lt_or_ge 19 (decDigits u).length with h6 | h6
    · have : 10 ^ 19 ≤ 10 ^ ((decDigits u).length - 1) := Nat.pow_le_pow_right (by omega) (by omega)
      have e : (10 : Nat) ^ 19 = 10000000000000000000 := by decide
      omega
    · exact h6
  · rw [decDigits, dif_pos (by omega)]; simp

theorem head45 {l : B} (h : allDig l = true) : l.head? ≠ some 45 := by
  cases l with
  | nil => simp
  | cons a r =>
    intro e
    cases e
    simp [allDig, isDig] at h

theorem refNum_itoa (v : Int) (h0 : -9223372036854775808 ≤ v) (h1 : v < 9223372036854775808) : refNum (itoa v) = some v := by
  by_cases hv : v < 0
  · obtain ⟨n, rfl⟩ : ∃ n : Nat, v = -(n : Int) := ⟨v.natAbs, by omega⟩
    have hn : 1 ≤ n := by omega
    obtain ⟨f1, f2, f3, _, f5⟩ := dec_facts n
    have hlen := dec_len n (by omega)
    rw [itoa_neg n hn]
    unfold refNum
    have hm : (decide (1 < (45 :: decDigits n).length) && decide ((45 :: decDigits n).head? = some 45)) = true := by
      have : 0 < (decDigits n).length := List.length_pos_iff.2 f3
      simp; omega
    simp only [hm, if_true, List.tail_cons]
    rw [if_neg, if_neg (by rw [f1]; simp), f2, if_neg (by simp; omega)]
    rintro (h | h | ⟨h, _⟩)
    · exact f3 h
    · omega
    · rcases f5 with f5 | f5
      · omega
      · exact f5 h
  · obtain ⟨n, rfl⟩ : ∃ n : Nat, v = (n : Int) := ⟨v.toNat, by omega⟩
    obtain ⟨f1, f2, f3, _, f5⟩ := dec_facts n
    have hlen := dec_len n (by omega)
    rw [itoa_nonneg]
    unfold refNum
    have hm : (decide (1 < (decDigits n).length) && decide ((decDigits n).head? = some 45)) = false := by
      rw [decide_eq_false (head45 f1)]; simp
    simp only [hm, Bool.false_eq_true, if_false]
    rw [if_neg, if_neg (by rw [f1]; simp), f2, if_neg (by omega)]
    rintro (h | h | ⟨h, h2 | h2⟩)
    · exact f3 h
    · omega
    · rcases f5 with rfl | f5
      · rw [decDigits, dif_pos (by omega)] at h2; simp at h2
      · exact f5 h
    · exact h2
theorem itoa_refNum (w : B) (v : Int) (h : refNum w = some v) : itoa v = w ∧ -9223372036854775808 ≤ v ∧ v < 9223372036854775808 := by
  unfold refNum at h
  by_cases hm : (decide (1 < w.length) && decide (w.head? = some 45)) = true
  · simp only [hm, if_true] at h
    split at h
    · cases h
    · rename_i h1
      split at h
      · cases h
      · rename_i h2
        simp only [Bool.not_eq_false] at h2
        split at h
        · cases h
        · rename_i h3
          cases h
          simp only [Bool.and_eq_true, decide_eq_true_eq] at hm
          have hw : w = 45 :: w.tail := by
            cases w with
            | nil => simp at hm
            | cons a r => simp at hm; rw [hm.2]; rfl
          have hne : w.tail ≠ [] := fun e => h1 (.inl e)
          have hh : w.tail.head? ≠ some 48 := fun e => h1 (.inr (.inr ⟨e, .inr trivial⟩))
          have hd := dec_of_val _ _ rfl h2 hne (.inl hh)
          have hpos : 1 ≤ dval 0 w.tail := by
            rcases Nat.eq_zero_or_pos (dval 0 w.tail) with h0 | h0
            · rw [h0, decDigits, dif_pos (by omega)] at hd
              rw [← hd] at hh; simp at hh
            · exact h0
          refine ⟨?_, by omega, by omega⟩
          rw [itoa_neg _ hpos, hd, ← hw]
  · simp only [Bool.not_eq_true] at hm
    simp only [hm, Bool.false_eq_true, if_false] at h
    split at h
    · cases h
    · rename_i h1
      split at h
      · cases h
      · rename_i h2
        simp only [Bool.not_eq_false] at h2
        split at h
        · cases h
        · rename_i h3
          cases h
          have hne : w ≠ [] := fun e => h1 (.inl e)
          have hlen : 1 ≤ w.length := List.length_pos_iff.2 hne
          have hh : w.head? ≠ some 48 ∨ w.length = 1 := by
            by_cases e : w.head? = some 48
            · right
              rcases Nat.lt_or_ge 1 w.length with h' | h'
              · exact absurd (.inr (.inr ⟨e, .inl h'⟩)) h1
              · omega
            · exact .inl e
          have hd := dec_of_val _ _ rfl h2 hne hh
          simp only [not_or, not_and] at h3
          refine ⟨by rw [itoa_nonneg, hd], by omega, ?_⟩
          have := h3.2
          simp at this
          omega
theorem parse_itoa (v : Int) (h0 : -9223372036854775808 ≤ v) (h1 : v < 9223372036854775808) : parseIntB 64 (itoa v) = .ok v := by
  by_cases hv : v < 0
  · obtain ⟨n, rfl⟩ : ∃ n : Nat, v = -(n : Int) := ⟨v.natAbs, by omega⟩
    have hn : 1 ≤ n := by omega
    obtain ⟨f1, f2, f3, _, f5⟩ := dec_facts n
    rw [itoa_neg n hn]
    unfold parseIntB
    have e : parseUintB 64 (decDigits n) = .ok n := by
      unfold parseUintB
      rw [if_neg f3, parseM_ok _ _ _ f1 (by decide) (by rw [f2]; simp; omega), f2]
    simp only [show (45 : UInt8).toNat = 45 from rfl, or_true, if_true, e, not_true, false_and, if_false, true_and]
    rw [if_neg (by simp; omega)]
  · obtain ⟨n, rfl⟩ : ∃ n : Nat, v = (n : Int) := ⟨v.toNat, by omega⟩
    obtain ⟨f1, f2, f3, _, f5⟩ := dec_facts n
    rw [itoa_nonneg]
    cases hd : decDigits n with
    | nil => exact absurd hd f3
    | cons c r =>
      rw [hd] at f1 f2
      have hc : isDig c = true := by simp [allDig] at f1; exact f1.1
      simp only [isDig, Bool.and_eq_true, decide_eq_true_eq] at hc
      unfold parseIntB
      have e : parseUintB 64 (c :: r) = .ok n := by
        unfold parseUintB
        rw [if_neg (by simp), parseM_ok _ _ _ f1 (by decide) (by rw [f2]; simp; omega), f2]
      have hc1 : ¬ (c.toNat = 43 ∨ c.toNat = 45) := by omega
      have hc2 : ¬ c.toNat = 45 := by omega
      simp only [hc2, not_false_eq_true, true_and, if_false, false_and, or_false]
      rw [if_neg (show ¬ c.toNat = 43 by omega), e]
      simp only []
      rw [if_neg (by simp; omega)]
theorem numOf_ref (w : B) : numOf w = refNum w := by
  have range : ∀ v, parseIntB 64 w = .ok v → -9223372036854775808 ≤ v ∧ v < 9223372036854775808 := fun v h => by
    have := parseIntB_bounds h; simpa using this
  cases hr : refNum w with
  | some v =>
    obtain ⟨h1, h2, h3⟩ := itoa_refNum w v hr
    have hp := parse_itoa v h2 h3
    rw [h1] at hp
    unfold numOf
    rw [hp]; simp [h1]
  | none =>
    unfold numOf
    split
    · rename_i v hp
      split
      · rename_i hi
        obtain ⟨h2, h3⟩ := range v hp
        have := refNum_itoa v h2 h3
        rw [hi, hr] at this; cases this
      · rfl
    · rfl
end Go.Proofs.YtfiacgkhkonilaaGreatDoor

/- The document's way to read a line's words, as a plain definition; it is the program's. -/
namespace Go.Proofs.YtfiacgkhkonilaaGreatDoor
open Go

def namedRef (v : B) : Bool := decide (v = vSet) || decide (v = vCount)
def bytesRef (v : B) : Bool := decide (v = vRaw) || decide (v = vConfig)
def countRef (v : B) (n : Nat) : Bool :=
  if v = vSet ∨ v = vTrack then decide (n = 1)
  else if v = vModel then decide (n = 3)
  else if v = vRow then decide (1 ≤ n) && decide (n ≤ 4)
  else if v = vStart ∨ v = vTracks ∨ v = vCounts ∨ v = vTime ∨ v = vCount then decide (n = 0)
  else if v = vScan then decide (3 ≤ n) && (decide (n ≤ 129) && decide (n % 2 = 1))
  else false
/-- What stands behind the names. -/
def restRef (v : B) (ws rest : List B) : Option Cmd :=
  if bytesRef v = true then
    match rest with
    | [x] => if x.length % 2 = 0 then (hexOf x).map fun b => ⟨0, v, ws, [], b⟩ else none
    | _ => none
  else match numsOf rest with
    | none => none
    | some ns => if countRef v rest.length = true then some ⟨0, v, ws, ns, []⟩ else none
def readRef : List B → Option Cmd
  | [] => none
  | v :: rest =>
    if namedRef v = true then
      match rest with
      | [] => none
      | x :: r => if isName x = true then restRef v [x] r else none
    else restRef v [] rest

theorem hexOf_even : ∀ (m : Nat) (l : B), l.length = 2 * m + 1 → hexOf l = none
  | 0, l, h => by
    match l, h with
    | [a], _ => rfl
  | m + 1, l, h => by
    match l, h with
    | a :: b :: r, h =>
      unfold hexOf
      split
      · rfl
      · rw [hexOf_even m r (by simp at h; omega)]; rfl
theorem bytes_ref (x : B) (hx : x ≠ []) : (if x.length % 2 = 0 then hexOf x else none) = bytesWord x := by
  unfold bytesWord
  rw [if_neg hx]
  split
  · rfl
  · rw [hexOf_even (x.length / 2) x (by omega)]

/-- A verb with its need. -/
theorem read_need (v : B) (rest : List B) (n : Need) (hn : needOf v = some n) : readCmd (v :: rest) = if rest.length < n.words then none else if (rest.take n.words).all isName = false then none
    else if n.bytes then (match rest.drop n.words with | [x] => (bytesWord x).map fun b => ⟨0, v, rest.take n.words, [], b⟩ | _ => none)
    else if n.right (rest.drop n.words).length then (numsOf (rest.drop n.words)).map fun l => ⟨0, v, rest.take n.words, l, []⟩ else none := by
  simp only [readCmd, hn]
  rfl
theorem readRef_cons (v : B) (rest : List B) : readRef (v :: rest) = if namedRef v = true then (match rest with | [] => none | x :: r => if isName x = true then restRef v [x] r else none) else restRef v [] rest := rfl
def onlyBytes (v : B) (ws : List B) : List B → Option Cmd
  | [x] => (bytesWord x).map fun b => ⟨0, v, ws, [], b⟩
  | _ => none
theorem rest_bytes (v : B) (ws rest : List B) (hb : bytesRef v = true) (hne : ∀ x ∈ rest, x ≠ []) : restRef v ws rest = onlyBytes v ws rest := by
  unfold restRef
  rw [if_pos hb]
  match rest, hne with
  | [], _ => rfl
  | [x], h =>
    unfold onlyBytes
    simp only
    rw [← bytes_ref x (h x (by simp))]
    split <;> rfl
  | _ :: _ :: _, _ => rfl
theorem rest_nums (v : B) (ws rest : List B) (hb : bytesRef v = false) : restRef v ws rest = if countRef v rest.length = true then (numsOf rest).map fun l => ⟨0, v, ws, l, []⟩ else none := by
  unfold restRef
  rw [if_neg (by rw [hb]; simp)]
  cases numsOf rest with
  | none => simp
  | some ns => rfl
theorem ref_plain (v : B) (rest : List B) (n : Need) (hn : needOf v = some n) (h0 : n.words = 0) (hna : namedRef v = false) (hb : bytesRef v = false) (hnb : n.bytes = false) (hc : ∀ k, countRef v k = n.right k) :
    readRef (v :: rest) = readCmd (v :: rest) := by
  rw [read_need v rest n hn, h0, hnb]
  rw [readRef_cons]
  rw [if_neg (show ¬ namedRef v = true by rw [hna]; simp), rest_nums _ _ _ hb, hc, if_neg (show ¬ rest.length < 0 by omega), if_neg (show ¬ (rest.take 0).all isName = false by simp)]
  simp only [List.drop_zero, List.take_zero]
  rfl
theorem ref_named (v : B) (rest : List B) (n : Need) (hn : needOf v = some n) (h0 : n.words = 1) (hna : namedRef v = true) (hb : bytesRef v = false) (hnb : n.bytes = false) (hc : ∀ k, countRef v k = n.right k) :
    readRef (v :: rest) = readCmd (v :: rest) := by
  rw [read_need v rest n hn, h0, hnb]
  rw [readRef_cons]
  rw [if_pos hna]
  cases rest with
  | nil => simp
  | cons x r =>
    show (if isName x = true then restRef v [x] r else none) = _
    rw [rest_nums _ _ _ hb, hc]
    cases hx : isName x <;> simp [hx]
theorem ref_bytes (v : B) (rest : List B) (n : Need) (hn : needOf v = some n) (h0 : n.words = 0) (hna : namedRef v = false) (hb : bytesRef v = true) (hnb : n.bytes = true) (hne : ∀ x ∈ rest, x ≠ []) :
    readRef (v :: rest) = readCmd (v :: rest) := by
  rw [read_need v rest n hn, h0, hnb]
  rw [readRef_cons]
  rw [if_neg (show ¬ namedRef v = true by rw [hna]; simp), rest_bytes _ _ _ hb hne, if_neg (show ¬ rest.length < 0 by omega), if_neg (show ¬ (rest.take 0).all isName = false by simp)]
  simp only [List.drop_zero, List.take_zero, if_true]
  rfl
theorem ref_other (v : B) (rest : List B) (h : needOf v = none) : readRef (v :: rest) = readCmd (v :: rest) := by
  have e : readCmd (v :: rest) = none := by simp only [readCmd, h]
  have hv : v ≠ vSet ∧ v ≠ vModel ∧ v ≠ vRow ∧ (v ≠ vStart ∧ v ≠ vTracks ∧ v ≠ vCounts ∧ v ≠ vTime) ∧ v ≠ vScan ∧ (v ≠ vRaw ∧ v ≠ vConfig) ∧ v ≠ vTrack ∧ v ≠ vCount := by
    unfold needOf at h
    refine ⟨?_, ?_, ?_, ⟨?_, ?_, ?_, ?_⟩, ?_, ⟨?_, ?_⟩, ?_, ?_⟩ <;> (rintro rfl; revert h; decide)
  obtain ⟨a1, a2, a3, ⟨a4, a5, a6, a7⟩, a8, ⟨a9, a10⟩, a11, a12⟩ := hv
  have hb : bytesRef v = false := by simp [bytesRef, a9, a10]
  have hc : ∀ k, countRef v k = false := fun k => by simp [countRef, a1, a2, a3, a4, a5, a6, a7, a8, a11, a12]
  have hna : namedRef v = false := by simp [namedRef, a1, a12]
  rw [e]
  rw [readRef_cons]
  rw [if_neg (by rw [hna]; simp), rest_nums _ _ _ hb, hc, if_neg (by simp)]
theorem dec_congr {p q : Prop} [Decidable p] [Decidable q] (h : p ↔ q) : decide p = decide q := by
  by_cases hp : p
  · rw [decide_eq_true hp, decide_eq_true (h.1 hp)]
  · rw [decide_eq_false hp, decide_eq_false (fun hq => hp (h.2 hq))]
theorem right_one (k m : Nat) : (decide (m ≤ k) && (decide (k ≤ m) && (true || decide (k % 2 = 1)))) = decide (k = m) := by
  by_cases h : k = m
  · subst h; simp
  · rw [decide_eq_false h]
    by_cases h2 : m ≤ k
    · rw [decide_eq_false (show ¬ k ≤ m by omega)]; simp
    · rw [decide_eq_false h2]; simp
theorem readRef_eq (v : B) (rest : List B) (hne : ∀ x ∈ rest, x ≠ []) : readRef (v :: rest) = readCmd (v :: rest) := by
  by_cases hv1 : v = vSet
  · subst hv1; exact ref_named _ _ ⟨1, false, 1, 1, true⟩ rfl rfl (by decide) (by decide) rfl (fun k => (right_one k 1).symm)
  by_cases hv2 : v = vModel
  · subst hv2; exact ref_plain _ _ ⟨0, false, 3, 3, true⟩ rfl rfl (by decide) (by decide) rfl (fun k => (right_one k 3).symm)
  by_cases hv3 : v = vRow
  · subst hv3; exact ref_plain _ _ ⟨0, false, 1, 4, true⟩ rfl rfl (by decide) (by decide) rfl (fun k => by simp only [Need.right, Bool.true_or, Bool.and_true]; rfl)
  by_cases hv4 : v = vStart
  · subst hv4; exact ref_plain _ _ ⟨0, false, 0, 0, true⟩ rfl rfl (by decide) (by decide) rfl (fun k => (right_one k 0).symm)
  by_cases hv5 : v = vTracks
  · subst hv5; exact ref_plain _ _ ⟨0, false, 0, 0, true⟩ rfl rfl (by decide) (by decide) rfl (fun k => (right_one k 0).symm)
  by_cases hv6 : v = vCounts
  · subst hv6; exact ref_plain _ _ ⟨0, false, 0, 0, true⟩ rfl rfl (by decide) (by decide) rfl (fun k => (right_one k 0).symm)
  by_cases hv7 : v = vTime
  · subst hv7; exact ref_plain _ _ ⟨0, false, 0, 0, true⟩ rfl rfl (by decide) (by decide) rfl (fun k => (right_one k 0).symm)
  by_cases hv8 : v = vScan
  · subst hv8; exact ref_plain _ _ ⟨0, false, 3, 129, false⟩ rfl rfl (by decide) (by decide) rfl (fun k => by simp only [Need.right, Bool.false_or]; rfl)
  by_cases hv9 : v = vRaw
  · subst hv9; exact ref_bytes _ _ ⟨0, true, 0, 0, true⟩ rfl rfl (by decide) (by decide) rfl hne
  by_cases hv10 : v = vConfig
  · subst hv10; exact ref_bytes _ _ ⟨0, true, 0, 0, true⟩ rfl rfl (by decide) (by decide) rfl hne
  by_cases hv11 : v = vTrack
  · subst hv11; exact ref_plain _ _ ⟨0, false, 1, 1, true⟩ rfl rfl (by decide) (by decide) rfl (fun k => (right_one k 1).symm)
  by_cases hv12 : v = vCount
  · subst hv12; exact ref_named _ _ ⟨1, false, 0, 0, true⟩ rfl rfl (by decide) (by decide) rfl (fun k => (right_one k 0).symm)
  · exact ref_other v rest (by unfold needOf; simp [hv1, hv2, hv3, hv4, hv5, hv6, hv7, hv8, hv9, hv10, hv11, hv12])
end Go.Proofs.YtfiacgkhkonilaaGreatDoor

/- The fields of a line: strings.Cut at a note, strings.FieldsFunc at blanks, in the words of the plain definition; strings.SplitSeq's call. -/
namespace Go.Proofs.YtfiacgkhkonilaaGreatDoor
open Go Go.RowKit Go.Shelf Go.Lib Go.Proofs.YtfiacgkhkonilaaGreatDoorW.PrintWords Go.Proofs.YtfiacgkhkonilaaGreatDoor.Pblank

theorem decodeN_low (n b0 b1 b2 b3 : Nat) (h : b0 < 128) : decodeN n b0 b1 b2 b3 = (b0, 1) := by unfold decodeN; rw [if_pos h]
theorem decodeN_high (n b0 b1 b2 b3 : Nat) (hn : 1 ≤ n) (h : ¬ b0 < 128) : 128 ≤ (decodeN n b0 b1 b2 b3).1 ∧ 1 ≤ (decodeN n b0 b1 b2 b3).2 ∧ (decodeN n b0 b1 b2 b3).2 ≤ 4 ∧ (decodeN n b0 b1 b2 b3).2 ≤ n ∧
    (2 ≤ (decodeN n b0 b1 b2 b3).2 → 128 ≤ b1) ∧ (3 ≤ (decodeN n b0 b1 b2 b3).2 → 128 ≤ b2) ∧ (4 ≤ (decodeN n b0 b1 b2 b3).2 → 128 ≤ b3) := by
  unfold decodeN
  rw [if_neg h]
  repeat' split
  all_goals (simp only; omega)

def blankP (x : Nat) : Bool := x == 32 || (x == 9 || x == 13)
theorem blankP_isBlank (c : UInt8) : blankP c.toNat = isBlank c := by
  have h : ∀ n, n < 256 → blankP n = isBlank (UInt8.ofNat n) := by decide +kernel
  have := h c.toNat c.toNat_lt
  rwa [UInt8.ofNat_toNat] at this
theorem blankP_high (x : Nat) (h : 128 ≤ x) : blankP x = false := by
  have h1 : (x == 32) = false := by simp; omega
  have h2 : (x == 9) = false := by simp; omega
  have h3 : (x == 13) = false := by simp; omega
  unfold blankP; rw [h1, h2, h3]; rfl
theorem isBlank_high (c : UInt8) (h : 128 ≤ c.toNat) : isBlank c = false := by rw [← blankP_isBlank]; exact blankP_high _ h

theorem fieldsGo_run : ∀ (r : B) (cur l : B), (∀ c ∈ r, isBlank c = false) → fieldsGo cur (r ++ l) = fieldsGo (cur ++ r) l
  | [], cur, l, _ => by simp
  | c :: r, cur, l, h => by
    have h1 := fieldsGo_run r (cur ++ [c]) l (fun x hx => h x (List.mem_cons_of_mem _ hx))
    rw [List.cons_append, fieldsGo, h c (by simp), if_neg (by simp), h1, List.append_assoc]; rfl

/-- The piece of a text. -/
theorem extract_mk (s : ByteArray) (a b : Nat) : s.extract a b = mk ((s.data.toList.take b).drop a) := by
  apply of_mk
  rw [ByteArray.data_extract]
  simp [Array.toList_extract, List.extract_eq_take_drop, List.drop_take]

/-- What one step over a text that is not blank passes. -/
theorem step_word (s : ByteArray) (pos : Nat) (hp : pos < s.size) (hb : isBlank (s.data.toList.getD pos 0) = false) :
    blankP (Utf8.decode s pos).1 = false ∧ 1 ≤ (Utf8.decode s pos).2 ∧ pos + (Utf8.decode s pos).2 ≤ s.size ∧ ∀ j, pos ≤ j → j < pos + (Utf8.decode s pos).2 → isBlank (s.data.toList.getD j 0) = false := by
  have hsz := size_eq s
  rw [decode_N]
  by_cases h : (s.data.toList.getD pos 0).toNat < 128
  · rw [decodeN_low _ _ _ _ _ h]
    refine ⟨by rw [blankP_isBlank]; exact hb, Nat.le_refl _, by simp only; omega, fun j h1 h2 => ?_⟩
    obtain rfl : j = pos := by simp only at h2; omega
    exact hb
  · obtain ⟨h1, h2, h3, h4, h5, h6, h7⟩ := decodeN_high (s.data.toList.length - pos) (s.data.toList.getD pos 0).toNat (s.data.toList.getD (pos + 1) 0).toNat (s.data.toList.getD (pos + 2) 0).toNat (s.data.toList.getD (pos + 3) 0).toNat (by omega) h
    generalize decodeN (s.data.toList.length - pos) (s.data.toList.getD pos 0).toNat (s.data.toList.getD (pos + 1) 0).toNat (s.data.toList.getD (pos + 2) 0).toNat (s.data.toList.getD (pos + 3) 0).toNat = d at *
    refine ⟨blankP_high _ h1, h2, by omega, fun j hj hj2 => isBlank_high _ ?_⟩
    have : j = pos ∨ j = pos + 1 ∨ j = pos + 2 ∨ j = pos + 3 := by omega
    rcases this with rfl | rfl | rfl | rfl
    · omega
    · exact h5 (by omega)
    · exact h6 (by omega)
    · exact h7 (by omega)
theorem step_blank (s : ByteArray) (pos : Nat) (hb : isBlank (s.data.toList.getD pos 0) = true) : Utf8.decode s pos = ((s.data.toList.getD pos 0).toNat, 1) := by
  rw [decode_N]
  apply decodeN_low
  rcases Nat.lt_or_ge (s.data.toList.getD pos 0).toNat 128 with h | h
  · exact h
  · rw [isBlank_high _ h] at hb; cases hb

theorem mem_run (l : B) (pos k : Nat) (h : ∀ j, pos ≤ j → j < pos + k → isBlank (l.getD j 0) = false) : ∀ c ∈ (l.drop pos).take k, isBlank c = false := by
  intro c hc
  rw [List.mem_take_iff_getElem] at hc
  obtain ⟨j, hj, rfl⟩ := hc
  rw [List.getElem_drop]
  have := h (pos + j) (by omega) (by omega)
  rwa [List.getD_eq_getElem?_getD, List.getElem?_eq_getElem (by simp at hj; omega), Option.getD_some] at this

theorem spans_eq (s : ByteArray) : ∀ (f pos : Nat) (st : Option Nat) (acc : List (Nat × Nat)), s.size - pos ≤ f → (∀ a, st = some a → a < pos ∧ pos ≤ s.size) →
    (closeSpans s (spansFromP blankP s f pos st acc)).map (fun x => s.extract x.1 x.2) = acc.map (fun x => s.extract x.1 x.2) ++
      (fieldsGo (match st with | none => [] | some a => (s.data.toList.take pos).drop a) (s.data.toList.drop pos)).map mk
  | 0, pos, st, acc, hf, hst => by
    have hsz := size_eq s
    have e : s.data.toList.drop pos = [] := List.drop_eq_nil_of_le (by omega)
    rw [e]
    cases st with
    | none => simp [spansFromP, closeSpans, fieldsGo]
    | some a =>
      obtain ⟨h1, h2⟩ := hst a rfl
      obtain rfl : pos = s.size := by omega
      have hne : (s.data.toList.take s.size).drop a ≠ [] := by
        intro h
        have := congrArg List.length h
        simp at this; omega
      simp [spansFromP, closeSpans, fieldsGo, hne, extract_mk]
  | f + 1, pos, st, acc, hf, hst => by
    have hsz := size_eq s
    by_cases hp : pos < s.size
    · have hd : s.data.toList.drop pos = s.data.toList.getD pos 0 :: s.data.toList.drop (pos + 1) := by
        rw [List.drop_eq_getElem_cons (by omega), List.getD_eq_getElem?_getD, List.getElem?_eq_getElem (by omega), Option.getD_some]
      by_cases hb : isBlank (s.data.toList.getD pos 0) = true
      · have hdec := step_blank s pos hb
        have hp1 : blankP (s.data.toList.getD pos 0).toNat = true := by rw [blankP_isBlank]; exact hb
        rw [spansFromP.eq_def]
        simp only [if_pos hp, hdec]
        rw [if_pos hp1, hd, fieldsGo, if_pos hb]
        cases st with
        | none =>
          simp only [if_true]
          rw [spans_eq s f (pos + 1) none acc (by omega) (fun a h => by cases h)]
        | some a =>
          obtain ⟨h1, h2⟩ := hst a rfl
          have hne : (s.data.toList.take pos).drop a ≠ [] := by
            intro h
            have := congrArg List.length h
            simp at this; omega
          simp only [if_neg hne]
          rw [spans_eq s f (pos + 1) none (acc ++ [(a, pos)]) (by omega) (fun a h => by cases h), List.map_append, List.append_assoc]
          simp [extract_mk]
      · simp only [Bool.not_eq_true] at hb
        obtain ⟨h1, h2, h3, h4⟩ := step_word s pos hp hb
        rw [spansFromP.eq_def]
        simp only [if_pos hp]
        generalize Utf8.decode s pos = d at *
        obtain ⟨dr, k⟩ := d
        simp only at h1 h2 h3 h4 ⊢
        have hrun := mem_run s.data.toList pos k h4
        have hsplit : s.data.toList.drop pos = (s.data.toList.drop pos).take k ++ s.data.toList.drop (pos + k) := by
          conv => lhs; rw [← List.take_append_drop k (s.data.toList.drop pos), List.drop_drop]
        rw [if_neg (by rw [h1]; simp), hsplit, fieldsGo_run _ _ _ hrun]
        have htk : ∀ a, a ≤ pos → (s.data.toList.take pos).drop a ++ (s.data.toList.drop pos).take k = (s.data.toList.take (pos + k)).drop a := fun a ha => by
          rw [List.take_add, List.drop_append, List.length_take, show a - min pos s.data.toList.length = 0 by omega, List.drop_zero]
        cases st with
        | none =>
          simp only
          rw [spans_eq s f (pos + k) (some pos) acc (by omega) (fun a h => by cases h; omega)]
          have := htk pos (Nat.le_refl _)
          rw [show (s.data.toList.take pos).drop pos = [] from List.drop_eq_nil_of_le (by simp; omega)] at this
          rw [this]
        | some a =>
          obtain ⟨h5, h6⟩ := hst a rfl
          simp only
          rw [spans_eq s f (pos + k) (some a) acc (by omega) (fun a' h => by cases h; omega), htk a (by omega)]
    · have e : s.data.toList.drop pos = [] := List.drop_eq_nil_of_le (by omega)
      rw [spansFromP_end _ _ _ _ _ _ hp, e]
      cases st with
      | none => simp [closeSpans, fieldsGo]
      | some a =>
        obtain ⟨h1, h2⟩ := hst a rfl
        obtain rfl : pos = s.size := by omega
        have hne : (s.data.toList.take s.size).drop a ≠ [] := by
          intro h
          have := congrArg List.length h
          simp at this; omega
        simp [closeSpans, fieldsGo, hne, extract_mk]

theorem fields_eq (s : ByteArray) : goFieldsP blankP s = (fieldsGo [] s.data.toList).map mk := by
  unfold goFieldsP spansOfP
  rw [spans_eq s s.size 0 none [] (by omega) (fun a h => by cases h)]
  simp

theorem blank_pred (w : World) : PredAtRunes Tryz.prog 21 #[] blankP w := fun W x _ _ => by
  refine (script_blank.calls (x : Int) (blankP x) W ?_).mono fun e w' ⟨h, hd⟩ => ⟨h, hd.out⟩
  unfold script_blank.f blankP
  by_cases h1 : x = 32
  · subst h1; rfl
  · by_cases h2 : x = 9
    · subst h2; rfl
    · have e1 : ((x : Int) = 32) = False := by simp; omega
      have e2 : ((x : Int) = 9) = False := by simp; omega
      have e3 : (x == 32) = false := by simpa using h1
      have e4 : (x == 9) = false := by simpa using h2
      simp only [e1, e2, if_false, e3, e4, Bool.false_or]
      congr 1
      by_cases h3 : x = 13
      · subst h3; rfl
      · have e5 : (x == 13) = false := by simpa using h3
        have e6 : ((x : Int) == 13) = false := by simp; omega
        rw [e5, e6]
theorem fields_any (s : ByteArray) (w : World) (hs : s.size ≤ 4294967296) :
    Calls Tryz.prog 20 #[.string s, .func (.func 21) #[] #[]] w fun e w' => ∃ v, e = .returned v ∧ Kd.string.R 9 w' w.heap.size (fun _ => True) v ((fieldsGo [] s.data.toList).map mk) ∧ Below w.heap.size w w' := by
  refine (Tryz.strings_FieldsFunc_runes 21 #[] (enters_of Tryz.func21 (by kernel_rfl) rfl) blankP s w hs (blank_pred w)).mono ?_
  rintro e w' ⟨A, rfl, hA, ho, hb⟩
  refine ⟨_, rfl, ?_, hb⟩
  rw [fields_eq] at ho ⊢
  exact Kd.R_of_own ho (fun _ _ => trivial)

/-- A line without its note. -/
def noteCut (l : B) : B := l.takeWhile (· ≠ 37)
theorem note_none {l : B} (h : Lib.indexByte l 37 = -1) : noteCut l = l := by
  unfold noteCut
  have h1 := Lib.indexByte_none h
  rw [← List.append_nil l, List.takeWhile_append_of_pos, List.takeWhile_nil]
  intro x hx
  obtain ⟨k, hk, rfl⟩ := List.mem_iff_getElem.1 hx
  simp only [ne_eq, decide_not, Bool.not_eq_eq_eq_not, Bool.not_true, decide_eq_false_iff_not]
  intro e
  exact h1 k (by rw [List.getElem?_eq_getElem hk, e])
theorem note_some {l : B} {o : Nat} (h : Lib.indexByte l 37 = o) : noteCut l = l.take o := by
  unfold noteCut
  obtain ⟨h1, h2⟩ := Lib.indexByte_some h
  obtain ⟨hlt, he⟩ := List.getElem?_eq_some_iff.1 h1
  have e : l = l.take o ++ 37 :: l.drop (o + 1) := by
    rw [← he, List.getElem_cons_drop, List.take_append_drop]
  conv => lhs; rw [e]
  rw [List.takeWhile_append_of_pos, List.takeWhile_cons_of_neg (by simp), List.append_nil]
  intro x hx
  rw [List.mem_take_iff_getElem] at hx
  obtain ⟨k, hk, rfl⟩ := hx
  simp only [ne_eq, decide_not, Bool.not_eq_eq_eq_not, Bool.not_true, decide_eq_false_iff_not]
  intro e2
  exact h2 k (by omega) (by rw [List.getElem?_eq_getElem (by omega), e2])

set_option maxRecDepth 100000 in
set_option maxHeartbeats 1000000 in
theorem cut_lite (s : ByteArray) (w : World) (hs : s.size ≤ 140737488351232) :
    Calls Tryz.prog 35 #[.string s, .string ⟨#[37]⟩] w fun e w' => ∃ x y, e = .returned (.tuple #[.string (mk (noteCut s.data.toList)), x, y]) ∧ Below w.heap.size w w' := by
  have hix := Tryz.stringslite_Index_one s 37 w
  have hge := Lib.indexByte_ge s.data.toList 37
  by_cases hi : Lib.indexByte s.data.toList 37 = -1
  · have hn := note_none hi
    rw [hi] at hix
    have HX := Lib.hid hix
    have HN := Lib.hid hn
    clear hix hge hi hn
    go_enter Tryz.func35, Tryz.ntmps35
    go_wp2_with (go_at_call 55; refine HX.out.mono ?_; rintro e w' ⟨rfl, rfl⟩)
    go_ret3
    exact ⟨.string ⟨#[]⟩, .bool false, by rw [HN.out, mk_of]; rfl, Below.refl _ _⟩
  · obtain ⟨o, ho⟩ : ∃ o : Nat, Lib.indexByte s.data.toList 37 = o := ⟨(Lib.indexByte s.data.toList 37).toNat, by omega⟩
    have hn := note_some ho
    have hlt := index_lt ho
    rw [← Lib.size_eq] at hlt
    rw [ho] at hix
    have HX := Lib.hid hix
    have HN := Lib.hid hn
    clear hix hge hi hn ho
    go_enter Tryz.func35, Tryz.ntmps35
    go_wp2_with (go_at_call 55; refine HX.out.mono ?_; rintro e w' ⟨rfl, rfl⟩)
    go_region
    go_wp2
    go_ret3
    have e : s.extract 0 o = mk (s.data.toList.take o) := by rw [extract_mk]; simp
    exact ⟨.string (s.extract (o + 1) s.size), .bool true, by rw [HN.out, ← e]; rfl, (Below.refl _ _).drew⟩

set_option maxRecDepth 100000 in
theorem cut_any (s : ByteArray) (w : World) (hs : s.size ≤ 140737488351232) :
    Calls Tryz.prog 19 #[.string s, .string ⟨#[37]⟩] w fun e w' => ∃ x y, e = .returned (.tuple #[.string (mk (noteCut s.data.toList)), x, y]) ∧ Below w.heap.size w w' := by
  have H := Lib.hid (cut_lite s w hs)
  go_enter Tryz.func19, Tryz.ntmps19
  go_wp2_with (go_at_call 35; refine H.out.mono ?_; rintro e w' ⟨x, y, rfl, hb⟩)
  go_ret3
  exact ⟨x, y, rfl, hb⟩

set_option maxRecDepth 100000 in
theorem split_call (s sep : ByteArray) (w : World) :
    Calls Tryz.prog 34 #[.string s, .string sep, .int .i64 0] w fun e w' => e = .returned (.func (.func 52) #[] #[.pointer (some ⟨w.heap.size + 1, 0, none⟩), .pointer (some ⟨w.heap.size, 0, none⟩), .pointer (some ⟨w.heap.size + 2, 0, none⟩)]) ∧
      w' = ((w.alloc (.cells #[.string s] 9)).alloc (.cells #[.string sep] 9)).alloc (.cells #[.int .i64 0] 3) := by
  go_enter Tryz.func34, Tryz.ntmps34
  go_wp2
  go_ret
  exact ⟨rfl, rfl⟩
set_option maxRecDepth 100000 in
theorem splitseq_call (s sep : ByteArray) (w : World) :
    Calls Tryz.prog 18 #[.string s, .string sep] w fun e w' => e = .returned (.func (.func 52) #[] #[.pointer (some ⟨w.heap.size + 1, 0, none⟩), .pointer (some ⟨w.heap.size, 0, none⟩), .pointer (some ⟨w.heap.size + 2, 0, none⟩)]) ∧
      w' = ((w.alloc (.cells #[.string s] 9)).alloc (.cells #[.string sep] 9)).alloc (.cells #[.int .i64 0] 3) := by
  have H := Lib.hid (split_call s sep w)
  go_enter Tryz.func18, Tryz.ntmps18
  go_wp2_with (go_at_call 34; refine H.out.mono ?_; rintro e w' ⟨rfl, rfl⟩)
  go_ret
  exact ⟨rfl, rfl⟩
end Go.Proofs.YtfiacgkhkonilaaGreatDoor
