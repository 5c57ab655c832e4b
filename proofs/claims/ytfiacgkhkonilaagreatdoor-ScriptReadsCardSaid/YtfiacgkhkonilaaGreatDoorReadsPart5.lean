/- Part 5 of a proof: Read, ReadNamed -/
import Derived.Test.YtfiacgkhkonilaaGreatDoorReadsPart4
/- The walk of the document's Read: a line's words as a command. -/
namespace Go.Proofs.YtfiacgkhkonilaaGreatDoor
open Go Go.RowKit Go.Shelf Go.Proofs.YtfiacgkhkonilaaGreatDoorW.PrintWords Go.Proofs.YtfiacgkhkonilaaGreatDoorW.PrintLast Go.Proofs.YtfiacgkhkonilaaGreatDoorW.PrintMore
open Go.Proofs.YtfiacgkhkonilaaGreatDoor.PName Go.Proofs.YtfiacgkhkonilaaGreatDoor.Pdigit Go.Proofs.YtfiacgkhkonilaaGreatDoor.PNumber Go.Proofs.YtfiacgkhkonilaaGreatDoor.Pwords

theorem drawn_below {w w' : World} (h : Drawn0 w w') : Below w.heap.size w w' := by
  obtain ⟨⟨n, rfl⟩⟩ := h
  exact pw_below_drewN (Below.refl _ _) n
/-- A piece of a row that is read. -/
def Win (A : Option Addr) (ws : List ByteArray) (A1 : Option Addr) (n1 c1 : Nat) (xs : List ByteArray) : Prop := n1 = xs.length ∧ n1 ≤ c1 ∧ ∀ W : World, Kd.string.C W A ws.length ws → Kd.string.C W A1 n1 xs
/-- What Read leaves. -/
def ReadPost (w : World) (A : Option Addr) (ws : List ByteArray) (o : Option Cmd) (e : Ending) (w' : World) : Prop := Below w.heap.size w w' ∧ match o with
  | some c => ∃ A1 n1 c1 A2 n2 c2 A3 n3 c3, e = .returned (.tuple #[.agg #[.int .i64 0, .string (mk c.verb), .slice A1 n1 c1, .slice A2 n2 c2, .slice A3 n3 c3], .bool true]) ∧ Win A ws A1 n1 c1 (c.words.map mk) ∧
      (Kd.int .i64).R 2 w' w.heap.size (fun _ => True) (.slice A2 n2 c2) c.nums ∧ (Kd.int .u8).R 5 w' w.heap.size (fun _ => True) (.slice A3 n3 c3) c.bytes
  | none => ∃ l vb A1 n1 c1 A2 n2 c2 A3 n3 c3, e = .returned (.tuple #[.agg #[.int .i64 l, .string vb, .slice A1 n1 c1, .slice A2 n2 c2, .slice A3 n3 c3], .bool false])
theorem win_nil (A : Option Addr) (ws : List ByteArray) : Win A ws none 0 0 ([].map mk) := ⟨rfl, Nat.le_refl _, fun W _ => Kd.C_nil _ W⟩

theorem ref_number (s : ByteArray) (w : World) : Calls Tryz.prog 43 #[.string s] w fun e w' => e = .returned (.tuple #[.int .i64 (ans (numOf s.data.toList)).1, .bool (ans (numOf s.data.toList)).2]) ∧ Below w.heap.size w w' :=
  (radomeref40_Number.calls 41 s _ _ w (by rw [number_law])).mono fun e w' ⟨h, hd⟩ => ⟨h, drawn_below hd⟩
theorem ref_name (s : ByteArray) (w : World) : Calls Tryz.prog 32 #[.string s] w fun e w' => e = .returned (.bool (isName s.data.toList)) ∧ Drawn0 w w' :=
  radomeref40_Name.calls 20 s _ w (name_law s)
theorem ref_digit (c : UInt8) (w : World) : Calls Tryz.prog 42 #[.int .u8 c.toNat] w fun e w' => e = .returned (.int .i64 (hexVal c)) ∧ Drawn0 w w' :=
  radomeref40_digit.calls 20 _ _ w (digit_law c)

theorem results24 (tmps : Array Value) (W : World) (D : Nat) (a b c d e : Value) (x : Bool) (h2 : tmps.getD 2 undef = .pointer (some ⟨D, 0, none⟩)) (h3 : tmps.getD 3 undef = .bool x)
    (h : W.heap[D]? = some (.cells #[a, b, c, d, e] 38 (0, 0))) :
    (results Tryz.f24 tmps).run Tryz.prog W = .ok (.tuple #[.agg #[a, b, c, d, e], .bool x]) W := by
  obtain ⟨d0, d1, d2, d3, d4⟩ : W.cell? ⟨D, 0, none⟩ = some a ∧ W.cell? ⟨D, 1, none⟩ = some b ∧ W.cell? ⟨D, 2, none⟩ = some c ∧ W.cell? ⟨D, 3, none⟩ = some d ∧ W.cell? ⟨D, 4, none⟩ = some e := ⟨blk_cell h 0, blk_cell h 1, blk_cell h 2, blk_cell h 3, blk_cell h 4⟩
  rw [Array.getD_eq_getD_getElem?] at h2 h3
  simp [results, Tryz.results24, go_sem, h2, h3, d0, d1, d2, d3, d4]

theorem cells38 {w : World} {g t : Nat} {a b c d e : Value} (h : w.heap[g]? = some (.cells #[a, b, c, d, e] t (0, 0))) :
    (w.cell? ⟨g, 0, none⟩ = some a ∧ w.cell? ⟨g, 1, none⟩ = some b ∧ w.cell? ⟨g, 2, none⟩ = some c ∧ w.cell? ⟨g, 3, none⟩ = some d ∧ w.cell? ⟨g, 4, none⟩ = some e) ∧
    (w.frozen? ⟨g, 0, none⟩ = false ∧ w.frozen? ⟨g, 1, none⟩ = false ∧ w.frozen? ⟨g, 2, none⟩ = false ∧ w.frozen? ⟨g, 3, none⟩ = false ∧ w.frozen? ⟨g, 4, none⟩ = false) := cells5 h
theorem set5_heap' {w : World} {g t : Nat} {a b c d e a0 b0 c0 d0 e0 : Value} (h : w.heap[g]? = some (.cells #[a0, b0, c0, d0, e0] t (0, 0))) : (set5 w g a b c d e).heap[g]? = some (.cells #[a, b, c, d, e] t (0, 0)) := set5_heap h
theorem numsOf_snoc : ∀ (a : List B) (x : B), numsOf (a ++ [x]) = (numsOf a).bind fun l => (numOf x).map fun y => l ++ [y]
  | [], x => by
    simp only [List.nil_append, numsOf, Option.bind_some]
    cases numOf x <;> rfl
  | c :: a, x => by
    simp only [List.cons_append, numsOf]
    cases numOf c with
    | none => rfl
    | some v =>
      simp only [numsOf_snoc a x]
      cases numsOf a with
      | none => rfl
      | some l => cases numOf x <;> rfl
theorem numsOf_mem {x : ByteArray} {l : List ByteArray} (h : numOf x.data.toList = none) (hx : x ∈ l) : numsOf (l.map (·.data.toList)) = none := by
  induction l with
  | nil => cases hx
  | cons a r ih =>
    simp only [List.map_cons, numsOf]
    rcases List.mem_cons.1 hx with rfl | hx
    · rw [h]
    · cases numOf a.data.toList with
      | none => rfl
      | some v => simp only [ih hx]; rfl

theorem countRef_tests (v : ByteArray) (n : Nat) : countRef v.data.toList n =
    if (v.toList == ([115, 101, 116] : List UInt8)) = true then ((n : Int) == 1) else if (v.toList == ([116, 114, 97, 99, 107] : List UInt8)) = true then ((n : Int) == 1)
    else if (v.toList == ([109, 111, 100, 101, 108] : List UInt8)) = true then ((n : Int) == 3)
    else if (v.toList == ([114, 111, 119] : List UInt8)) = true then (if (1 : Int) ≤ n then decide ((n : Int) ≤ 4) else false)
    else if (v.toList == ([115, 116, 97, 114, 116] : List UInt8)) = true then ((n : Int) == 0) else if (v.toList == ([116, 114, 97, 99, 107, 115] : List UInt8)) = true then ((n : Int) == 0) else if (v.toList == ([99, 111, 117, 110, 116, 115] : List UInt8)) = true then ((n : Int) == 0)
    else if (v.toList == ([116, 105, 109, 101] : List UInt8)) = true then ((n : Int) == 0) else if (v.toList == ([99, 111, 117, 110, 116] : List UInt8)) = true then ((n : Int) == 0)
    else if (v.toList == ([115, 99, 97, 110] : List UInt8)) = true then (if (3 : Int) ≤ n then (if (n : Int) ≤ 129 then ((n : Int) % 2 == 1) else false) else false)
    else false := by
  have hb : ∀ k : Nat, ((n : Int) == (k : Int)) = decide (n = k) := fun k => by
    by_cases h : n = k
    · subst h; simp
    · rw [decide_eq_false h, beq_eq_false_iff_ne]; omega
  have h0 : ((n : Int) == 0) = decide (n = 0) := hb 0
  have h1 : ((n : Int) == 1) = decide (n = 1) := hb 1
  have h3 : ((n : Int) == 3) = decide (n = 3) := hb 3
  have r : (if (1 : Int) ≤ n then decide ((n : Int) ≤ 4) else false) = (decide (1 ≤ n) && decide (n ≤ 4)) := by
    by_cases h : 1 ≤ n
    · rw [if_pos (by omega), decide_eq_true h, Bool.true_and]; exact dec_congr (by omega)
    · rw [if_neg (by omega), decide_eq_false h, Bool.false_and]
  have q : (if (3 : Int) ≤ n then (if (n : Int) ≤ 129 then ((n : Int) % 2 == 1) else false) else false) = (decide (3 ≤ n) && (decide (n ≤ 129) && decide (n % 2 = 1))) := by
    by_cases h : 3 ≤ n
    · rw [if_pos (by omega), decide_eq_true h, Bool.true_and]
      by_cases h' : n ≤ 129
      · rw [if_pos (by omega), decide_eq_true h', Bool.true_and]
        by_cases h'' : n % 2 = 1
        · rw [decide_eq_true h'', beq_iff_eq]; omega
        · rw [decide_eq_false h'', beq_eq_false_iff_ne]; omega
      · rw [if_neg (by omega), decide_eq_false h', Bool.false_and]
    · rw [if_neg (by omega), decide_eq_false h, Bool.false_and]
  have t : ∀ l : List UInt8, ((v.toList == l) = true) = (v.data.toList = l) := fun l => by rw [Lib.toList_data, beq_iff_eq]
  simp only [t]
  rw [h0, h1, h3, r, q]
  generalize v.data.toList = u
  unfold countRef vSet vTrack vModel vRow vStart vTracks vCounts vTime vCount vScan
  by_cases a1 : u = [115, 101, 116]
  · rw [if_pos (Or.inl a1), if_pos a1]
  rw [if_neg a1]
  by_cases a2 : u = [116, 114, 97, 99, 107]
  · rw [if_pos (Or.inr a2), if_pos a2]
  rw [if_neg (fun h => h.elim a1 a2), if_neg a2]
  by_cases a3 : u = [109, 111, 100, 101, 108]
  · rw [if_pos a3, if_pos a3]
  rw [if_neg a3, if_neg a3]
  by_cases a4 : u = [114, 111, 119]
  · rw [if_pos a4, if_pos a4]
  rw [if_neg a4, if_neg a4]
  by_cases b1 : u = [115, 116, 97, 114, 116]
  · rw [if_pos (Or.inl b1), if_pos b1]
  rw [if_neg b1]
  by_cases b2 : u = [116, 114, 97, 99, 107, 115]
  · rw [if_pos (Or.inr (Or.inl b2)), if_pos b2]
  rw [if_neg b2]
  by_cases b3 : u = [99, 111, 117, 110, 116, 115]
  · rw [if_pos (Or.inr (Or.inr (Or.inl b3))), if_pos b3]
  rw [if_neg b3]
  by_cases b4 : u = [116, 105, 109, 101]
  · rw [if_pos (Or.inr (Or.inr (Or.inr (Or.inl b4)))), if_pos b4]
  rw [if_neg b4]
  by_cases b5 : u = [99, 111, 117, 110, 116]
  · rw [if_pos (Or.inr (Or.inr (Or.inr (Or.inr b5)))), if_pos b5]
  rw [if_neg b5, if_neg]
  rintro (h | h | h | h | h)
  · exact b1 h
  · exact b2 h
  · exact b3 h
  · exact b4 h
  · exact b5 h
/-- What holds between two rounds of Read's numbers. -/
def RI (w : World) (v : ByteArray) (vW : Value) (lst : List ByteArray) (k : Nat) (wr : World) : Prop := ∃ (vN : Value) (nsk : List Int), wr.heap[w.heap.size]? = some (.cells #[.int .i64 0, .string ⟨#[]⟩, .slice none 0 0, .slice none 0 0, .slice none 0 0] 38 (0, 0)) ∧
      wr.heap[w.heap.size + 1]? = some (.cells #[.int .i64 0, .string v, vW, vN, .slice none 0 0] 38 (0, 0)) ∧ (Kd.int .i64).R 2 wr w.heap.size (fun j => w.heap.size + 2 ≤ j) vN nsk ∧ Below w.heap.size w wr ∧ w.heap.size + 2 ≤ wr.heap.size ∧
      nsk.length = k ∧ Aside0 (numsOf ((lst.take k).map (·.data.toList)) = some nsk)
/-- A leaf of Read's walk. -/
theorem read_leaf {w wr : World} {A : Option Addr} {all : List ByteArray} {v : ByteArray} {A1 A2 : Option Addr} {n1 c1 c2 n : Nat} {ws : List B} {nsk : List Int} {x : Bool} {o : Option Cmd} {z0 z1 z2 z3 z4 : Value}
    (hbl : Below w.heap.size w wr) (hz : w.heap.size + 2 ≤ wr.heap.size) (hD : wr.heap[w.heap.size]? = some (.cells #[z0, z1, z2, z3, z4] 38 (0, 0)))
    (hR : (Kd.int .i64).R 2 wr w.heap.size (fun j => w.heap.size + 2 ≤ j) (.slice A2 nsk.length c2) nsk) (hW : Win A all A1 n1 c1 (ws.map mk))
    (ho : o = if countRef v.data.toList n = true then some ⟨0, v.data.toList, ws, nsk, []⟩ else none) (hx : x = countRef v.data.toList n) :
    ReadPost w A all o (.returned (.tuple #[.agg #[.int .i64 0, .string v, .slice A1 n1 c1, .slice A2 nsk.length c2, .slice none 0 0], .bool x])) (set5 wr w.heap.size (.int .i64 0) (.string v) (.slice A1 n1 c1) (.slice A2 nsk.length c2) (.slice none 0 0)) := by
  have hg := set5_grown wr w.heap.size (.int .i64 0) (.string v) (.slice A1 n1 c1) (.slice A2 nsk.length c2) (.slice none 0 0)
  refine ⟨hbl.grown hg (by omega) (fun k e => by cases e; exact Nat.le_refl _), ?_⟩
  rw [ho, ← hx]
  cases x with
  | false => exact ⟨_, _, _, _, _, _, _, _, _, _, _, rfl⟩
  | true => exact ⟨A1, n1, c1, A2, _, c2, none, 0, 0, by rw [mk_of], hW, Kd.R_mono (R_past hR hD (by simp [Kd.int, Kd.scalar]) hg) (fun _ _ => trivial), Kd.R_nil _ _ _ _ _⟩

set_option maxRecDepth 100000 in
set_option maxHeartbeats 1000000 in
/-- Neither names nor bytes; all are numbers. -/
theorem read_plain (b off cap : Nat) (v : ByteArray) (rs : List ByteArray) (w : World) (hC : Kd.string.C w (some ⟨b, off, none⟩) (v :: rs).length (v :: rs)) (hcap : (v :: rs).length ≤ cap)
    (h1 : namedRef v.data.toList = false) (h2 : bytesRef v.data.toList = false) (hl : rs.length < 4294967295) :
    Calls Tryz.prog 24 #[.slice (some ⟨b, off, none⟩) (v :: rs).length cap] w (ReadPost w (some ⟨b, off, none⟩) (v :: rs) (readRef (v.data.toList :: rs.map (·.data.toList)))) := by
  obtain ⟨ad, e0, c0⟩ := Kd.at_string hC 0 (by omega) (by simp)
  cases e0
  have hlt : b < w.heap.size := World.block_lt_of_cell? w _ c0
  have c0' : w.cell? ⟨b, off, none⟩ = some (.string v) := c0
  obtain ⟨A', hcut, hcutC, hcutB⟩ := cutS' (v :: rs) b off cap 1 (by simp) hcap
  have hcut1 : ∀ W : World, (Instr.slice 33 (.slice (some ⟨b, off, none⟩) (v :: rs).length cap) (some (.int .i64 1)) none none).run Tryz.prog W = .ok (.slice A' ((v :: rs).length - 1) (cap - 1)) W := hcut
  have hlr : (v :: rs).length - 1 = rs.length := by simp
  rw [hlr] at hcut1
  have hl1 : (0 : Int) < ((v :: rs).length : Int) := by simp
  have hl2 : (1 : Int) ≤ ((v :: rs).length : Int) := by simp; omega
  have hvt := Lib.toList_data v
  have HNA := Lib.hid h1
  have HBY := Lib.hid h2
  simp only [namedRef, bytesRef, Bool.or_eq_false_iff, decide_eq_false_iff_not] at h1 h2
  have t_set : (v.toList == ([115, 101, 116] : List UInt8)) = false := by rw [beq_eq_false_iff_ne, hvt]; exact h1.1
  have t_count : (v.toList == ([99, 111, 117, 110, 116] : List UInt8)) = false := by rw [beq_eq_false_iff_ne, hvt]; exact h1.2
  have t_raw : (v.toList == ([114, 97, 119] : List UInt8)) = false := by rw [beq_eq_false_iff_ne, hvt]; exact h2.1
  have t_config : (v.toList == ([99, 111, 110, 102, 105, 103] : List UInt8)) = false := by rw [beq_eq_false_iff_ne, hvt]; exact h2.2
  have HC := Lib.hid hC
  have hrc : ∀ W : World, Kd.string.C W (some ⟨b, off, none⟩) (v :: rs).length (v :: rs) → Kd.string.C W A' rs.length rs := hcutC
  have HRC := Lib.hid hrc
  have HVT := Lib.hid hvt
  have H1 := Lib.hid h1
  have H2 := Lib.hid h2
  generalize (v :: rs).length = len at hcut1 hl1 hl2 ⊢
  clear hrc c0 hC hcut hcutC hcutB hlr h1 h2 hvt
  go_enter Tryz.func24, Tryz.ntmps24
  go_wp2
  obtain ⟨W0, hW0⟩ : ∃ W0, (w.alloc (.cells #[.int .i64 0, .string ⟨#[]⟩, .slice none 0 0, .slice none 0 0, .slice none 0 0] 38)).alloc (.cells #[.int .i64 0, .string v, .slice none 0 0, .slice none 0 0, .slice none 0 0] 38) = W0 := ⟨_, rfl⟩
  have q0 : W0.heap[w.heap.size]? = some (.cells #[.int .i64 0, .string ⟨#[]⟩, .slice none 0 0, .slice none 0 0, .slice none 0 0] 38 (0, 0)) := by
    rw [← hW0]; exact up _ (fresh w _ rfl)
  have q1 : W0.heap[w.heap.size + 1]? = some (.cells #[.int .i64 0, .string v, .slice none 0 0, .slice none 0 0, .slice none 0 0] 38 (0, 0)) := by
    rw [← hW0]; exact fresh _ _ (by simp)
  have qb : Below w.heap.size w W0 := by rw [← hW0]; exact ((Below.refl _ w).alloc (Nat.le_refl _) _).alloc (by simp) _
  have qs : w.heap.size + 2 ≤ W0.heap.size := by rw [← hW0]; simp
  rw [hW0]
  have Q0 := Lib.hid q0
  have Q1 := Lib.hid q1
  have QB := Lib.hid qb
  clear q0 q1 qb hW0
  go_loopw [10] (fun i wr => ∃ (k : Nat), k ≤ rs.length ∧ i = .int .i64 k ∧ RI w v (.slice none 0 0) rs k wr) (fun i _ => rs.length - (intOf i).toNat)
  case atStart => exact ⟨0, Nat.zero_le _, rfl, _, [], Q0.out, Q1.out, Kd.R_nil _ _ _ _ _, QB.out, by omega, rfl, ⟨rfl⟩⟩
  case round =>
    obtain ⟨k, hk, rfl, vN, nsk, hb0, hb1, hR, hbl, hsz2, hnk, HN⟩ := hrel
    by_cases hkn : k < rs.length
    · have hCr : Kd.string.C wr A' rs.length rs := HRC.out wr (Kd.C_below HC.out hbl)
      obtain ⟨ad, hAe, hcell⟩ := Kd.at_string hCr k (by omega) (by omega)
      subst hAe
      rw [Int.toNat_natCast] at hcell
      have htk : (rs.take (k + 1)).map (·.data.toList) = (rs.take k).map (·.data.toList) ++ [(rdOf ByteArray.empty rs k).data.toList] := by
        rw [List.take_succ_eq_append_getElem (by omega), List.map_append]
        unfold rdOf
        rw [Int.toNat_natCast, List.getD_eq_getElem?_getD, List.getElem?_eq_getElem (by omega), Option.getD_some]; rfl
      have hx : rdOf ByteArray.empty rs k ∈ rs := by
        unfold rdOf
        rw [Int.toNat_natCast, List.getD_eq_getElem?_getD, List.getElem?_eq_getElem (by omega), Option.getD_some]
        exact List.getElem_mem _
      have HT := Lib.hid htk
      have HX := Lib.hid hx
      generalize rdOf ByteArray.empty rs k = x at *
      have hcl := ref_number x wr
      have HR := Lib.hid hR
      have HB0 := Lib.hid hb0
      have HB1 := Lib.hid hb1
      have HBL := Lib.hid hbl
      have HNK := Lib.hid hnk
      have hkn2 : (k : Int) < (rs.length : Int) := by omega
      have hown : ∀ j, vN.ownBlock = some j → w.heap.size + 2 ≤ j := hR.1
      have HOW := Lib.hid hown
      have hlim : (nsk.length + 1) * 8 ≤ 140737488355328 := by omega
      have HLI := Lib.hid hlim
      clear htk hx hCr hR hb0 hb1 hbl hnk hown hlim
      rcases hno : numOf x.data.toList with _ | y
      · rw [hno] at hcl
        have HNO := Lib.hid hno
        have HCL := Lib.hid hcl
        clear hcl hno
        go_wp2_with (go_at_call 43; refine HCL.out.mono ?_; rintro e w1 ⟨rfl, hd1⟩; dsimp only [ans]; have hk0 := (hd1.block _ (by omega)).trans HB0.out; have hk1 := (hd1.block _ (by omega)).trans HB1.out; obtain ⟨A2, c2, rfl⟩ := Kd.R_slice HR.out; obtain ⟨⟨k0, k1, k2, k3, k4⟩, _⟩ := cells38 hk1; obtain ⟨⟨d0, d1, d2, d3, d4⟩, ⟨e0, e1, e2, e3, e4⟩⟩ := cells38 hk0; have HD1 := Lib.hid hd1; have HK0 := Lib.hid hk0; clear hd1 hk0 hk1)
        refine bodyPost_ret (results24 _ _ w.heap.size _ _ _ _ _ _ rfl rfl (set5_heap' HK0.out)) rfl ?_
        have e : readRef (v.data.toList :: rs.map (·.data.toList)) = none := by
          rw [readRef_cons, if_neg (by rw [HNA.out]; simp)]
          unfold restRef
          rw [if_neg (by rw [HBY.out]; simp), numsOf_mem HNO.out HX.out]
        rw [e]
        have hb := HBL.out.trans (HD1.out.mono (by omega))
        exact ⟨hb.grown (set5_grown _ w.heap.size _ _ _ _ _) hb.size (fun k e => by cases e; exact Nat.le_refl _), _, _, _, _, _, _, _, _, _, _, _, rfl⟩
      · rw [hno] at hcl
        have HNO := Lib.hid hno
        have HCL := Lib.hid hcl
        clear hcl hno
        go_wp2_with (first
          | (go_at_call 43; refine HCL.out.mono ?_; rintro e w1 ⟨rfl, hd1⟩; dsimp only [ans]; have hk0 := (hd1.block _ (by omega)).trans HB0.out; have hk1 := (hd1.block _ (by omega)).trans HB1.out; have k3 : w1.cell? ⟨w.heap.size + 1, 3, none⟩ = some vN := blk_cell hk1 3; have HD1 := Lib.hid hd1; have HK0 := Lib.hid hk0; have HK1 := Lib.hid hk1; clear hd1 hk0 hk1)
          | (at_builtin; refine Kd.R_append (Kd.int .i64) (w0 := w1) w.heap.size rfl (.tmp 126) (.tmp 128) 34 2 (.int .i64 0) 8 rfl Tryz.underlying34 info2 rfl (by decide) (by omega) vN nsk y [.int .i64 y] (fun j => w.heap.size + 2 ≤ j) (fun _ => False) rfl rfl ?aP (fun _ hk => hk.elim) ?aF ?aO ?aB ?aS ?aL ?_; (case aP => exact rfl); (case aF => (intro j hj; have := HD1.out.size; omega)); (case aO => exact Kd.R_below HR.out HD1.out); (case aB => exact Below.refl _ _); (case aS => (have := HD1.out.size; omega)); (case aL => exact HLI.out); intro v1 w2 ho hb2 hg2 hat; obtain ⟨A1, q1, rfl⟩ := Kd.R_slice ho; have hne := fun (g : Nat) (hg : g < w.heap.size + 2) (e : some g = vN.ownBlock) => (by have := HOW.out g e.symm; omega : False); have hk0 := blk_grown HK0.out hg2 (hne _ (by omega)); have hk1 := blk_grown HK1.out hg2 (hne _ (by omega)); have c3 : w2.cell? ⟨w.heap.size + 1, 3, none⟩ = some vN := blk_cell hk1 3; have f3 := blk_frozen hk1 3; have HK0b := Lib.hid hk0; have HK1b := Lib.hid hk1; have HO := Lib.hid ho; have HG2 := Lib.hid hg2; clear hk0 hk1 ho hg2 hat hb2 hne))
        go_roundw
        case rel =>
          refine ⟨k + 1, by omega, by go_num, _, nsk ++ [y], blk_far HK0b.out (by simp) _, blk_set HK1b.out 3 _, ?_, ?_, ?_, by rw [List.length_append, HNK.out]; rfl, ⟨?_⟩⟩
          · have h := Kd.R_set HO.out HK1b.out (by simp [Kd.int, Kd.scalar]) 3 (.slice A1 (nsk ++ [y]).length q1)
            simpa using h
          · have hb := HBL.out.trans (HD1.out.mono (by omega))
            exact (hb.grown HG2.out hb.size (fun j e => by have := HOW.out j e; omega)).setCell (by simp) _
          · have := HD1.out.size; have := HG2.out.size; simp; omega
          · rw [HT.out, numsOf_snoc, HN.out, HNO.out]; rfl
        case measure => simp [intOf]; omega
    · obtain rfl : k = rs.length := by omega
      have hnum := HN.out
      rw [List.take_length] at hnum
      have HNU := Lib.hid hnum
      obtain ⟨A2, c2, rfl⟩ := Kd.R_slice hR
      obtain ⟨⟨k0, k1, k2, k3, k4⟩, _⟩ := cells38 hb1
      obtain ⟨⟨d0, d1, d2, d3, d4⟩, ⟨e0, e1, e2, e3, e4⟩⟩ := cells38 hb0
      have cv : wr.cell? ⟨b, off, none⟩ = some (.string v) := (hbl.cell (p := ⟨b, off, none⟩) hlt).trans c0'
      have HR := Lib.hid hR
      have HB0 := Lib.hid hb0
      have HBL := Lib.hid hbl
      clear hR hb0 hb1 hbl hnum HN hnk
      have hro : readRef (v.data.toList :: rs.map (·.data.toList)) = if countRef v.data.toList rs.length = true then some ⟨0, v.data.toList, [], nsk, []⟩ else none := by
        rw [readRef_cons, if_neg (by rw [HNA.out]; simp)]
        unfold restRef
        rw [if_neg (by rw [HBY.out]; simp), HNU.out, List.length_map]
      have HRO := Lib.hid hro
      clear hro
      rcases t_track : (v.toList == ([116, 114, 97, 99, 107] : List UInt8)) with _ | _
      rotate_left
      · have hx : (((rs.length : Nat) : Int) == 1) = countRef v.data.toList rs.length := by
          rw [countRef_tests]
          simp only [t_set, t_track, Bool.false_eq_true, if_true, if_false]
        have HX := Lib.hid hx
        clear hx
        go_wp2
        refine bodyPost_ret (results24 _ _ w.heap.size _ _ _ _ _ _ rfl rfl (set5_heap' HB0.out)) rfl ?_
        exact read_leaf HBL.out hsz2 HB0.out HR.out (win_nil _ _) HRO.out HX.out
      rcases t_model : (v.toList == ([109, 111, 100, 101, 108] : List UInt8)) with _ | _
      rotate_left
      · have hx : (((rs.length : Nat) : Int) == 3) = countRef v.data.toList rs.length := by
          rw [countRef_tests]
          simp only [t_set, t_track, t_model, Bool.false_eq_true, if_true, if_false]
        have HX := Lib.hid hx
        clear hx
        go_wp2
        refine bodyPost_ret (results24 _ _ w.heap.size _ _ _ _ _ _ rfl rfl (set5_heap' HB0.out)) rfl ?_
        exact read_leaf HBL.out hsz2 HB0.out HR.out (win_nil _ _) HRO.out HX.out
      rcases t_row : (v.toList == ([114, 111, 119] : List UInt8)) with _ | _
      rotate_left
      · by_cases p1 : (1 : Int) ≤ ((rs.length : Nat) : Int)
        · have hx : (decide (((rs.length : Nat) : Int) ≤ 4)) = countRef v.data.toList rs.length := by
            rw [countRef_tests]
            simp only [t_set, t_track, t_model, t_row, if_pos p1, Bool.false_eq_true, if_true, if_false]
          have HX := Lib.hid hx
          clear hx
          go_wp2
          refine bodyPost_ret (results24 _ _ w.heap.size _ _ _ _ _ _ rfl rfl (set5_heap' HB0.out)) rfl ?_
          exact read_leaf HBL.out hsz2 HB0.out HR.out (win_nil _ _) HRO.out HX.out
        · have hx : false = countRef v.data.toList rs.length := by
            rw [countRef_tests]
            simp only [t_set, t_track, t_model, t_row, if_neg p1, Bool.false_eq_true, if_true, if_false]
          have HX := Lib.hid hx
          clear hx
          go_wp2
          refine bodyPost_ret (results24 _ _ w.heap.size _ _ _ _ _ _ rfl rfl (set5_heap' HB0.out)) rfl ?_
          exact read_leaf HBL.out hsz2 HB0.out HR.out (win_nil _ _) HRO.out HX.out
      rcases t_start : (v.toList == ([115, 116, 97, 114, 116] : List UInt8)) with _ | _
      rotate_left
      · have hx : (((rs.length : Nat) : Int) == 0) = countRef v.data.toList rs.length := by
          rw [countRef_tests]
          simp only [t_set, t_track, t_model, t_row, t_start, Bool.false_eq_true, if_true, if_false]
        have HX := Lib.hid hx
        clear hx
        go_wp2
        refine bodyPost_ret (results24 _ _ w.heap.size _ _ _ _ _ _ rfl rfl (set5_heap' HB0.out)) rfl ?_
        exact read_leaf HBL.out hsz2 HB0.out HR.out (win_nil _ _) HRO.out HX.out
      rcases t_tracks : (v.toList == ([116, 114, 97, 99, 107, 115] : List UInt8)) with _ | _
      rotate_left
      · have hx : (((rs.length : Nat) : Int) == 0) = countRef v.data.toList rs.length := by
          rw [countRef_tests]
          simp only [t_set, t_track, t_model, t_row, t_start, t_tracks, Bool.false_eq_true, if_true, if_false]
        have HX := Lib.hid hx
        clear hx
        go_wp2
        refine bodyPost_ret (results24 _ _ w.heap.size _ _ _ _ _ _ rfl rfl (set5_heap' HB0.out)) rfl ?_
        exact read_leaf HBL.out hsz2 HB0.out HR.out (win_nil _ _) HRO.out HX.out
      rcases t_counts : (v.toList == ([99, 111, 117, 110, 116, 115] : List UInt8)) with _ | _
      rotate_left
      · have hx : (((rs.length : Nat) : Int) == 0) = countRef v.data.toList rs.length := by
          rw [countRef_tests]
          simp only [t_set, t_track, t_model, t_row, t_start, t_tracks, t_counts, Bool.false_eq_true, if_true, if_false]
        have HX := Lib.hid hx
        clear hx
        go_wp2
        refine bodyPost_ret (results24 _ _ w.heap.size _ _ _ _ _ _ rfl rfl (set5_heap' HB0.out)) rfl ?_
        exact read_leaf HBL.out hsz2 HB0.out HR.out (win_nil _ _) HRO.out HX.out
      rcases t_time : (v.toList == ([116, 105, 109, 101] : List UInt8)) with _ | _
      rotate_left
      · have hx : (((rs.length : Nat) : Int) == 0) = countRef v.data.toList rs.length := by
          rw [countRef_tests]
          simp only [t_set, t_track, t_model, t_row, t_start, t_tracks, t_counts, t_time, Bool.false_eq_true, if_true, if_false]
        have HX := Lib.hid hx
        clear hx
        go_wp2
        refine bodyPost_ret (results24 _ _ w.heap.size _ _ _ _ _ _ rfl rfl (set5_heap' HB0.out)) rfl ?_
        exact read_leaf HBL.out hsz2 HB0.out HR.out (win_nil _ _) HRO.out HX.out
      rcases t_scan : (v.toList == ([115, 99, 97, 110] : List UInt8)) with _ | _
      rotate_left
      · by_cases p1 : (3 : Int) ≤ ((rs.length : Nat) : Int)
        · by_cases p2 : ((rs.length : Nat) : Int) ≤ 129
          · have hx : (((rs.length : Nat) : Int) % 2 == 1) = countRef v.data.toList rs.length := by
              rw [countRef_tests]
              simp only [t_set, t_track, t_model, t_row, t_start, t_tracks, t_counts, t_time, t_count, t_scan, if_pos p1, if_pos p2, Bool.false_eq_true, if_true, if_false]
            have HX := Lib.hid hx
            clear hx
            go_wp2
            refine bodyPost_ret (results24 _ _ w.heap.size _ _ _ _ _ _ rfl rfl (set5_heap' HB0.out)) rfl ?_
            exact read_leaf HBL.out hsz2 HB0.out HR.out (win_nil _ _) HRO.out HX.out
          · have hx : false = countRef v.data.toList rs.length := by
              rw [countRef_tests]
              simp only [t_set, t_track, t_model, t_row, t_start, t_tracks, t_counts, t_time, t_count, t_scan, if_pos p1, if_neg p2, Bool.false_eq_true, if_true, if_false]
            have HX := Lib.hid hx
            clear hx
            go_wp2
            refine bodyPost_ret (results24 _ _ w.heap.size _ _ _ _ _ _ rfl rfl (set5_heap' HB0.out)) rfl ?_
            exact read_leaf HBL.out hsz2 HB0.out HR.out (win_nil _ _) HRO.out HX.out
        · have hx : false = countRef v.data.toList rs.length := by
            rw [countRef_tests]
            simp only [t_set, t_track, t_model, t_row, t_start, t_tracks, t_counts, t_time, t_count, t_scan, if_neg p1, Bool.false_eq_true, if_true, if_false]
          have HX := Lib.hid hx
          clear hx
          go_wp2
          refine bodyPost_ret (results24 _ _ w.heap.size _ _ _ _ _ _ rfl rfl (set5_heap' HB0.out)) rfl ?_
          exact read_leaf HBL.out hsz2 HB0.out HR.out (win_nil _ _) HRO.out HX.out
      have hx : false = countRef v.data.toList rs.length := by
        rw [countRef_tests]
        simp only [t_set, t_track, t_model, t_row, t_start, t_tracks, t_counts, t_time, t_count, t_scan, Bool.false_eq_true, if_false]
      have HX := Lib.hid hx
      clear hx
      go_wp2
      refine bodyPost_ret (results24 _ _ w.heap.size _ _ _ _ _ _ rfl rfl (set5_heap' HB0.out)) rfl ?_
      exact read_leaf HBL.out hsz2 HB0.out HR.out (win_nil _ _) HRO.out HX.out
end Go.Proofs.YtfiacgkhkonilaaGreatDoor

/- The walk of the document's Read, behind names. -/
namespace Go.Proofs.YtfiacgkhkonilaaGreatDoor
open Go Go.RowKit Go.Shelf Go.Proofs.YtfiacgkhkonilaaGreatDoorW.PrintWords Go.Proofs.YtfiacgkhkonilaaGreatDoorW.PrintLast Go.Proofs.YtfiacgkhkonilaaGreatDoorW.PrintMore

set_option maxRecDepth 100000 in
set_option maxHeartbeats 1000000 in
theorem read_set_none (b off cap : Nat) (v : ByteArray) (rs : List ByteArray) (w : World) (hC : Kd.string.C w (some ⟨b, off, none⟩) (v :: rs).length (v :: rs)) (hcap : (v :: rs).length ≤ cap)
    (hbad : rs = [] ∨ ∃ x r, rs = x :: r ∧ isName x.data.toList = false)
    (hv : v.data.toList = vSet) (hl : rs.length < 4294967295) :
    Calls Tryz.prog 24 #[.slice (some ⟨b, off, none⟩) (v :: rs).length cap] w (ReadPost w (some ⟨b, off, none⟩) (v :: rs) (readRef (v.data.toList :: rs.map (·.data.toList)))) := by
  obtain ⟨ad, e0, c0⟩ := Kd.at_string hC 0 (by omega) (by simp)
  cases e0
  have hlt : b < w.heap.size := World.block_lt_of_cell? w _ c0
  have c0' : w.cell? ⟨b, off, none⟩ = some (.string v) := c0
  obtain ⟨A', hcut, hcutC, hcutB⟩ := cutS' (v :: rs) b off cap 1 (by simp) hcap
  have hcut1 : ∀ W : World, (Instr.slice 33 (.slice (some ⟨b, off, none⟩) (v :: rs).length cap) (some (.int .i64 1)) none none).run Tryz.prog W = .ok (.slice A' ((v :: rs).length - 1) (cap - 1)) W := hcut
  have hlr : (v :: rs).length - 1 = rs.length := by simp
  rw [hlr] at hcut1
  have hl1 : (0 : Int) < ((v :: rs).length : Int) := by simp
  have hl2 : (1 : Int) ≤ ((v :: rs).length : Int) := by simp; omega
  have hvv : v.toList = vSet := by rw [Lib.toList_data]; exact hv
  have t_set : (v.toList == ([115, 101, 116] : List UInt8)) = true := by rw [hvv]; rfl
  have t_raw : (v.toList == ([114, 97, 119] : List UInt8)) = false := by rw [hvv]; rfl
  have t_config : (v.toList == ([99, 111, 110, 102, 105, 103] : List UInt8)) = false := by rw [hvv]; rfl
  have hna : namedRef v.data.toList = true := by rw [hv]; rfl
  have hby : bytesRef v.data.toList = false := by rw [hv]; rfl
  have hrc0 : ∀ W : World, Kd.string.C W (some ⟨b, off, none⟩) (v :: rs).length (v :: rs) → Kd.string.C W A' rs.length rs := hcutC
  have HNA := Lib.hid hna
  have HBY := Lib.hid hby
  have HC := Lib.hid hC
  have HR0 := Lib.hid hrc0
  rcases hbad with rfl | ⟨x, r, rfl, hx⟩
  · have h0 : ([] : List ByteArray).length = 0 := rfl
    rw [h0] at hcut1
    have hro : readRef [v.data.toList] = none := by
      rw [readRef_cons, if_pos HNA.out]
    have HRO := Lib.hid hro
    have HPO := Lib.hid (rfl : (v :: ([] : List ByteArray)).length = (v :: ([] : List ByteArray)).length)
    generalize hlen : (v :: ([] : List ByteArray)).length = len at hcut1 hl1 hl2 ⊢
    clear c0 hC hcut hcutC hcutB hlr hna hby hrc0 hcap hvv hv hlen hro
    go_enter Tryz.func24, Tryz.ntmps24
    go_wp2
    refine bodyPost_ret (results24 _ _ w.heap.size _ _ _ _ _ _ rfl rfl (up _ (fresh w _ rfl))) rfl ?_
    rw [HRO.out]
    exact ⟨((Below.refl _ w).alloc (Nat.le_refl _) _).alloc (by simp) _, _, _, _, _, _, _, _, _, _, _, _, rfl⟩
  · obtain ⟨ad, rfl, hcell⟩ := Kd.at_string (hrc0 w hC) 0 (by omega) (by simp)
    have hcell1 : w.cell? ad = some (.string x) := by cases ad; exact hcell
    have hadl : ad.block < w.heap.size := World.block_lt_of_cell? w ad hcell1
    have hcw : ∀ o o2 : Obj, ((w.alloc o).alloc o2).cell? ad = some (.string x) := fun o o2 => (World.cell?_alloc_lt _ o2 ad (by rw [World.size_alloc]; omega)).trans ((World.cell?_alloc_lt w o ad hadl).trans hcell1)
    have hnm := fun W => ref_name x W
    rw [hx] at hnm
    have HNM := Lib.hid (hnm ((w.alloc (.cells #[.int .i64 0, .string ⟨#[]⟩, .slice none 0 0, .slice none 0 0, .slice none 0 0] 38)).alloc (.cells #[.int .i64 0, .string v, .slice none 0 0, .slice none 0 0, .slice none 0 0] 38)))
    have hro : readRef (v.data.toList :: (x :: r).map (·.data.toList)) = none := by
      rw [readRef_cons, if_pos HNA.out]
      show (if isName x.data.toList = true then restRef v.data.toList [x.data.toList] (r.map (·.data.toList)) else none) = none
      rw [hx]; rfl
    have HRO := Lib.hid hro
    have hr0 : (0 : Int) < ((x :: r).length : Int) := by simp
    have hr1 : (((x :: r).length : Nat) : Int) ≠ 0 := by simp; omega
    generalize hlen : (v :: x :: r).length = len at hcut1 hl1 hl2 ⊢
    generalize (x :: r).length = len1 at hcut1 hr0 hr1 hl
    clear c0 hC hcut hcutC hcutB hlr hna hby hrc0 hcap hvv hv hlen hro hcell hcell1 hnm hx
    go_enter Tryz.func24, Tryz.ntmps24
    go_wp2_with (go_at_call 32; go_loud (refine HNM.out.mono ?_; rintro e w1 ⟨rfl, hd0⟩; dsimp only; have hd1 := drawn_below hd0; have hk0 := (hd1.block w.heap.size (by simp <;> omega)).trans (up (.cells #[.int .i64 0, .string v, .slice none 0 0, .slice none 0 0, .slice none 0 0] 38) (fresh w (.cells #[.int .i64 0, .string ⟨#[]⟩, .slice none 0 0, .slice none 0 0, .slice none 0 0] 38) rfl)); have hk1 := (hd1.block (w.heap.size + 1) (by simp <;> omega)).trans (fresh (w.alloc (.cells #[.int .i64 0, .string ⟨#[]⟩, .slice none 0 0, .slice none 0 0, .slice none 0 0] 38)) (.cells #[.int .i64 0, .string v, .slice none 0 0, .slice none 0 0, .slice none 0 0] 38) (by simp)); have hB1 : Below w.heap.size w w1 := (((Below.refl _ w).alloc (Nat.le_refl _) _).alloc (by simp) _).trans (hd1.mono (by simp <;> omega)); obtain ⟨⟨k0, k1, k2, k3, k4⟩, ⟨f0, f1, f2, f3, f4⟩⟩ := cells38 hk1; obtain ⟨⟨d0, d1, d2, d3, d4⟩, ⟨e0, e1, e2, e3, e4⟩⟩ := cells38 hk0; have hz1 := hd1.size; simp only [World.size_alloc] at hz1; have cv : w1.cell? ⟨b, off, none⟩ = some (.string v) := (hB1.cell (p := ⟨b, off, none⟩) hlt).trans c0'; have HK0 := Lib.hid hk0; have HK1 := Lib.hid hk1; have HB1 := Lib.hid hB1; clear hd0 hd1 hk0 hk1 hB1))
    refine bodyPost_ret (results24 _ _ w.heap.size _ _ _ _ _ _ rfl rfl (set5_heap' HK0.out)) rfl ?_
    rw [HRO.out]
    exact ⟨HB1.out.grown (set5_grown _ w.heap.size _ _ _ _ _) HB1.out.size (fun k e => by cases e; exact Nat.le_refl _), _, _, _, _, _, _, _, _, _, _, _, rfl⟩

set_option maxRecDepth 100000 in
set_option maxHeartbeats 1000000 in
theorem read_count_none (b off cap : Nat) (v : ByteArray) (rs : List ByteArray) (w : World) (hC : Kd.string.C w (some ⟨b, off, none⟩) (v :: rs).length (v :: rs)) (hcap : (v :: rs).length ≤ cap)
    (hbad : rs = [] ∨ ∃ x r, rs = x :: r ∧ isName x.data.toList = false)
    (hv : v.data.toList = vCount) (hl : rs.length < 4294967295) :
    Calls Tryz.prog 24 #[.slice (some ⟨b, off, none⟩) (v :: rs).length cap] w (ReadPost w (some ⟨b, off, none⟩) (v :: rs) (readRef (v.data.toList :: rs.map (·.data.toList)))) := by
  obtain ⟨ad, e0, c0⟩ := Kd.at_string hC 0 (by omega) (by simp)
  cases e0
  have hlt : b < w.heap.size := World.block_lt_of_cell? w _ c0
  have c0' : w.cell? ⟨b, off, none⟩ = some (.string v) := c0
  obtain ⟨A', hcut, hcutC, hcutB⟩ := cutS' (v :: rs) b off cap 1 (by simp) hcap
  have hcut1 : ∀ W : World, (Instr.slice 33 (.slice (some ⟨b, off, none⟩) (v :: rs).length cap) (some (.int .i64 1)) none none).run Tryz.prog W = .ok (.slice A' ((v :: rs).length - 1) (cap - 1)) W := hcut
  have hlr : (v :: rs).length - 1 = rs.length := by simp
  rw [hlr] at hcut1
  have hl1 : (0 : Int) < ((v :: rs).length : Int) := by simp
  have hl2 : (1 : Int) ≤ ((v :: rs).length : Int) := by simp; omega
  have hvv : v.toList = vCount := by rw [Lib.toList_data]; exact hv
  have t_set : (v.toList == ([115, 101, 116] : List UInt8)) = false := by rw [hvv]; rfl
  have t_count : (v.toList == ([99, 111, 117, 110, 116] : List UInt8)) = true := by rw [hvv]; rfl
  have t_raw : (v.toList == ([114, 97, 119] : List UInt8)) = false := by rw [hvv]; rfl
  have t_config : (v.toList == ([99, 111, 110, 102, 105, 103] : List UInt8)) = false := by rw [hvv]; rfl
  have hna : namedRef v.data.toList = true := by rw [hv]; rfl
  have hby : bytesRef v.data.toList = false := by rw [hv]; rfl
  have hrc0 : ∀ W : World, Kd.string.C W (some ⟨b, off, none⟩) (v :: rs).length (v :: rs) → Kd.string.C W A' rs.length rs := hcutC
  have HNA := Lib.hid hna
  have HBY := Lib.hid hby
  have HC := Lib.hid hC
  have HR0 := Lib.hid hrc0
  rcases hbad with rfl | ⟨x, r, rfl, hx⟩
  · have h0 : ([] : List ByteArray).length = 0 := rfl
    rw [h0] at hcut1
    have hro : readRef [v.data.toList] = none := by
      rw [readRef_cons, if_pos HNA.out]
    have HRO := Lib.hid hro
    have HPO := Lib.hid (rfl : (v :: ([] : List ByteArray)).length = (v :: ([] : List ByteArray)).length)
    generalize hlen : (v :: ([] : List ByteArray)).length = len at hcut1 hl1 hl2 ⊢
    clear c0 hC hcut hcutC hcutB hlr hna hby hrc0 hcap hvv hv hlen hro
    go_enter Tryz.func24, Tryz.ntmps24
    go_wp2
    refine bodyPost_ret (results24 _ _ w.heap.size _ _ _ _ _ _ rfl rfl (up _ (fresh w _ rfl))) rfl ?_
    rw [HRO.out]
    exact ⟨((Below.refl _ w).alloc (Nat.le_refl _) _).alloc (by simp) _, _, _, _, _, _, _, _, _, _, _, _, rfl⟩
  · obtain ⟨ad, rfl, hcell⟩ := Kd.at_string (hrc0 w hC) 0 (by omega) (by simp)
    have hcell1 : w.cell? ad = some (.string x) := by cases ad; exact hcell
    have hadl : ad.block < w.heap.size := World.block_lt_of_cell? w ad hcell1
    have hcw : ∀ o o2 : Obj, ((w.alloc o).alloc o2).cell? ad = some (.string x) := fun o o2 => (World.cell?_alloc_lt _ o2 ad (by rw [World.size_alloc]; omega)).trans ((World.cell?_alloc_lt w o ad hadl).trans hcell1)
    have hnm := fun W => ref_name x W
    rw [hx] at hnm
    have HNM := Lib.hid (hnm ((w.alloc (.cells #[.int .i64 0, .string ⟨#[]⟩, .slice none 0 0, .slice none 0 0, .slice none 0 0] 38)).alloc (.cells #[.int .i64 0, .string v, .slice none 0 0, .slice none 0 0, .slice none 0 0] 38)))
    have hro : readRef (v.data.toList :: (x :: r).map (·.data.toList)) = none := by
      rw [readRef_cons, if_pos HNA.out]
      show (if isName x.data.toList = true then restRef v.data.toList [x.data.toList] (r.map (·.data.toList)) else none) = none
      rw [hx]; rfl
    have HRO := Lib.hid hro
    have hr0 : (0 : Int) < ((x :: r).length : Int) := by simp
    have hr1 : (((x :: r).length : Nat) : Int) ≠ 0 := by simp; omega
    generalize hlen : (v :: x :: r).length = len at hcut1 hl1 hl2 ⊢
    generalize (x :: r).length = len1 at hcut1 hr0 hr1 hl
    clear c0 hC hcut hcutC hcutB hlr hna hby hrc0 hcap hvv hv hlen hro hcell hcell1 hnm hx
    go_enter Tryz.func24, Tryz.ntmps24
    go_wp2_with (go_at_call 32; go_loud (refine HNM.out.mono ?_; rintro e w1 ⟨rfl, hd0⟩; dsimp only; have hd1 := drawn_below hd0; have hk0 := (hd1.block w.heap.size (by simp <;> omega)).trans (up (.cells #[.int .i64 0, .string v, .slice none 0 0, .slice none 0 0, .slice none 0 0] 38) (fresh w (.cells #[.int .i64 0, .string ⟨#[]⟩, .slice none 0 0, .slice none 0 0, .slice none 0 0] 38) rfl)); have hk1 := (hd1.block (w.heap.size + 1) (by simp <;> omega)).trans (fresh (w.alloc (.cells #[.int .i64 0, .string ⟨#[]⟩, .slice none 0 0, .slice none 0 0, .slice none 0 0] 38)) (.cells #[.int .i64 0, .string v, .slice none 0 0, .slice none 0 0, .slice none 0 0] 38) (by simp)); have hB1 : Below w.heap.size w w1 := (((Below.refl _ w).alloc (Nat.le_refl _) _).alloc (by simp) _).trans (hd1.mono (by simp <;> omega)); obtain ⟨⟨k0, k1, k2, k3, k4⟩, ⟨f0, f1, f2, f3, f4⟩⟩ := cells38 hk1; obtain ⟨⟨d0, d1, d2, d3, d4⟩, ⟨e0, e1, e2, e3, e4⟩⟩ := cells38 hk0; have hz1 := hd1.size; simp only [World.size_alloc] at hz1; have cv : w1.cell? ⟨b, off, none⟩ = some (.string v) := (hB1.cell (p := ⟨b, off, none⟩) hlt).trans c0'; have HK0 := Lib.hid hk0; have HK1 := Lib.hid hk1; have HB1 := Lib.hid hB1; clear hd0 hd1 hk0 hk1 hB1))
    refine bodyPost_ret (results24 _ _ w.heap.size _ _ _ _ _ _ rfl rfl (set5_heap' HK0.out)) rfl ?_
    rw [HRO.out]
    exact ⟨HB1.out.grown (set5_grown _ w.heap.size _ _ _ _ _) HB1.out.size (fun k e => by cases e; exact Nat.le_refl _), _, _, _, _, _, _, _, _, _, _, _, rfl⟩

set_option maxRecDepth 100000 in
set_option maxHeartbeats 2000000 in
theorem read_set_name (b off cap : Nat) (v nm : ByteArray) (r : List ByteArray) (w : World) (hC : Kd.string.C w (some ⟨b, off, none⟩) (v :: nm :: r).length (v :: nm :: r)) (hcap : (v :: nm :: r).length ≤ cap)
    (hnam : isName nm.data.toList = true) (hv : v.data.toList = vSet) (hl : r.length < 4294967295) :
    Calls Tryz.prog 24 #[.slice (some ⟨b, off, none⟩) (v :: nm :: r).length cap] w (ReadPost w (some ⟨b, off, none⟩) (v :: nm :: r) (readRef (v.data.toList :: nm.data.toList :: r.map (·.data.toList)))) := by
  obtain ⟨ad, e0, c0⟩ := Kd.at_string hC 0 (by omega) (by simp only [List.length_cons]; omega)
  cases e0
  have hlt : b < w.heap.size := World.block_lt_of_cell? w _ c0
  have c0' : w.cell? ⟨b, off, none⟩ = some (.string v) := c0
  obtain ⟨A', hcut, hcutC, hcutB⟩ := cutS' (v :: nm :: r) b off cap 1 (by simp) hcap
  have hlr : (v :: nm :: r).length - 1 = (nm :: r).length := by simp
  have hcap1 : (nm :: r).length ≤ cap - 1 := by rw [← hlr]; omega
  obtain ⟨A2, hcut2, hcutC2, hcutB2⟩ := cutS (nm :: r) A' (cap - 1) 1 (by simp) hcap1
  obtain ⟨i9, hi9, _, _, _⟩ := info_parts info9
  have hto := cut_to (P := Tryz.prog) 33 9 .i64 Tryz.underlying33 hi9 A' (nm :: r).length (cap - 1) 1 (by omega) (by simp; omega) hcap1
  have hto1 : ∀ W : World, (Instr.slice 33 (.slice A' (nm :: r).length (cap - 1)) none (some (.int .i64 1)) none).run Tryz.prog W = .ok (.slice A' 1 (cap - 1)) W := hto
  have hcut1 : ∀ W : World, (Instr.slice 33 (.slice (some ⟨b, off, none⟩) (v :: nm :: r).length cap) (some (.int .i64 1)) none none).run Tryz.prog W = .ok (.slice A' ((v :: nm :: r).length - 1) (cap - 1)) W := hcut
  rw [hlr] at hcut1
  have hcut2' : ∀ W : World, (Instr.slice 33 (.slice A' (nm :: r).length (cap - 1)) (some (.int .i64 1)) none none).run Tryz.prog W = .ok (.slice A2 ((nm :: r).length - 1) (cap - 1 - 1)) W := hcut2
  rw [show (nm :: r).length - 1 = r.length by simp] at hcut2'
  have hrc0 : ∀ W : World, Kd.string.C W (some ⟨b, off, none⟩) (v :: nm :: r).length (v :: nm :: r) → Kd.string.C W A' (nm :: r).length (nm :: r) := hcutC
  have hwin : Win (some ⟨b, off, none⟩) (v :: nm :: r) A' 1 (cap - 1) ([nm.data.toList].map mk) := by
    refine ⟨rfl, by simp at hcap1; omega, fun W h => ?_⟩
    have h2 := Kd.C_take (m := 1) (hrc0 W h) (by simp)
    rw [List.map_cons, List.map_nil, mk_of]; exact h2
  have hrc : ∀ W : World, Kd.string.C W (some ⟨b, off, none⟩) (v :: nm :: r).length (v :: nm :: r) → Kd.string.C W A2 r.length r := fun W h => hcutC2 W (hrc0 W h)
  have hl1 : (0 : Int) < ((v :: nm :: r).length : Int) := by simp only [List.length_cons]; omega
  have hl2 : (1 : Int) ≤ ((v :: nm :: r).length : Int) := by simp; omega
  have hvv : v.toList = vSet := by rw [Lib.toList_data]; exact hv
  have t_set : (v.toList == ([115, 101, 116] : List UInt8)) = true := by rw [hvv]; rfl
  have t_raw : (v.toList == ([114, 97, 119] : List UInt8)) = false := by rw [hvv]; rfl
  have t_config : (v.toList == ([99, 111, 110, 102, 105, 103] : List UInt8)) = false := by rw [hvv]; rfl
  have hna : namedRef v.data.toList = true := by rw [hv]; rfl
  have hby : bytesRef v.data.toList = false := by rw [hv]; rfl
  have HNA := Lib.hid hna
  have HBY := Lib.hid hby
  have HC := Lib.hid hC
  have HRC := Lib.hid hrc
  have HWIN := Lib.hid hwin
  have HNAM := Lib.hid hnam
  obtain ⟨ad, hAd, hcell⟩ := Kd.at_string (hrc0 w hC) 0 (by omega) (by simp)
  subst hAd
  have hcell1 : w.cell? ad = some (.string nm) := by cases ad; exact hcell
  have hadl : ad.block < w.heap.size := World.block_lt_of_cell? w ad hcell1
  have hcw : ∀ o o2 : Obj, ((w.alloc o).alloc o2).cell? ad = some (.string nm) := fun o o2 => (World.cell?_alloc_lt _ o2 ad (by rw [World.size_alloc]; omega)).trans ((World.cell?_alloc_lt w o ad hadl).trans hcell1)
  have hnm := fun W => ref_name nm W
  rw [hnam] at hnm
  have HNM := Lib.hid (hnm ((w.alloc (.cells #[.int .i64 0, .string ⟨#[]⟩, .slice none 0 0, .slice none 0 0, .slice none 0 0] 38)).alloc (.cells #[.int .i64 0, .string v, .slice none 0 0, .slice none 0 0, .slice none 0 0] 38)))
  have hr0 : (0 : Int) < ((nm :: r).length : Int) := by simp only [List.length_cons]; omega
  have hr1 : (((nm :: r).length : Nat) : Int) ≠ 0 := by simp only [List.length_cons]; omega
  generalize hlen : (v :: nm :: r).length = len at hcut1 hl1 hl2 ⊢
  generalize (nm :: r).length = len1 at hcut1 hcut2' hto1 hr0 hr1
  clear c0 hC hcut hcutC hcutB hlr hna hby hrc0 hrc hcap hvv hv hlen hcell hcell1 hnm hnam hwin hto hcut2 hcutC2 hcutB2 hcap1 hi9
  go_enter Tryz.func24, Tryz.ntmps24
  go_wp2_with (go_at_call 32; refine HNM.out.mono ?_; rintro e w1 ⟨rfl, hd0⟩; dsimp only; have hd1 := drawn_below hd0; have hk0 := (hd1.block w.heap.size (by simp <;> omega)).trans (up (.cells #[.int .i64 0, .string v, .slice none 0 0, .slice none 0 0, .slice none 0 0] 38) (fresh w (.cells #[.int .i64 0, .string ⟨#[]⟩, .slice none 0 0, .slice none 0 0, .slice none 0 0] 38) rfl)); have hk1 := (hd1.block (w.heap.size + 1) (by simp <;> omega)).trans (fresh (w.alloc (.cells #[.int .i64 0, .string ⟨#[]⟩, .slice none 0 0, .slice none 0 0, .slice none 0 0] 38)) (.cells #[.int .i64 0, .string v, .slice none 0 0, .slice none 0 0, .slice none 0 0] 38) (by simp)); have hB1 : Below w.heap.size w w1 := (((Below.refl _ w).alloc (Nat.le_refl _) _).alloc (by simp) _).trans (hd1.mono (by simp <;> omega)); obtain ⟨⟨k0, k1, k2, k3, k4⟩, ⟨f0, f1, f2, f3, f4⟩⟩ := cells38 hk1; have hz1 := hd1.size; simp only [World.size_alloc] at hz1; have cv : w1.cell? ⟨b, off, none⟩ = some (.string v) := (hB1.cell (p := ⟨b, off, none⟩) hlt).trans c0'; have HK0 := Lib.hid hk0; have HK1 := Lib.hid hk1; have HB1 := Lib.hid hB1; clear hd0 hd1 hk0 hk1 hB1)
  obtain ⟨W0, hW0⟩ : ∃ W0, w1.setCell ⟨w.heap.size + 1, 2, none⟩ (.slice (some ad) 1 (cap - 1)) = W0 := ⟨_, rfl⟩
  have q0 : W0.heap[w.heap.size]? = some (.cells #[.int .i64 0, .string ⟨#[]⟩, .slice none 0 0, .slice none 0 0, .slice none 0 0] 38 (0, 0)) := by
    rw [← hW0]; exact blk_far HK0.out (by simp) _
  have q1 : W0.heap[w.heap.size + 1]? = some (.cells #[.int .i64 0, .string v, .slice (some ad) 1 (cap - 1), .slice none 0 0, .slice none 0 0] 38 (0, 0)) := by
    rw [← hW0]; exact blk_set HK1.out 2 _
  have qb : Below w.heap.size w W0 := by rw [← hW0]; exact HB1.out.setCell (by simp) _
  have qs : w.heap.size + 2 ≤ W0.heap.size := by rw [← hW0, World.size_setCell]; omega
  rw [hW0]
  have Q0 := Lib.hid q0
  have Q1 := Lib.hid q1
  have QB := Lib.hid qb
  clear q0 q1 qb hW0 k0 k1 k2 k3 k4 f0 f1 f2 f3 f4 cv hcw
  go_loopw [10] (fun i wr => ∃ (k : Nat), k ≤ r.length ∧ i = .int .i64 k ∧ RI w v (.slice (some ad) 1 (cap - 1)) r k wr) (fun i _ => r.length - (intOf i).toNat)
  case atStart => exact ⟨0, Nat.zero_le _, rfl, _, [], Q0.out, Q1.out, Kd.R_nil _ _ _ _ _, QB.out, by omega, rfl, ⟨rfl⟩⟩
  case round =>
    obtain ⟨k, hk, rfl, vN, nsk, hb0, hb1, hR, hbl, hsz2, hnk, HN⟩ := hrel
    by_cases hkn : k < r.length
    · have hCr : Kd.string.C wr A2 r.length r := HRC.out wr (Kd.C_below HC.out hbl)
      obtain ⟨ad, hAe, hcell⟩ := Kd.at_string hCr k (by omega) (by omega)
      subst hAe
      rw [Int.toNat_natCast] at hcell
      have htk : (r.take (k + 1)).map (·.data.toList) = (r.take k).map (·.data.toList) ++ [(rdOf ByteArray.empty r k).data.toList] := by
        rw [List.take_succ_eq_append_getElem (by omega), List.map_append]
        unfold rdOf
        rw [Int.toNat_natCast, List.getD_eq_getElem?_getD, List.getElem?_eq_getElem (by omega), Option.getD_some]; rfl
      have hx : rdOf ByteArray.empty r k ∈ r := by
        unfold rdOf
        rw [Int.toNat_natCast, List.getD_eq_getElem?_getD, List.getElem?_eq_getElem (by omega), Option.getD_some]
        exact List.getElem_mem _
      have HT := Lib.hid htk
      have HX := Lib.hid hx
      generalize rdOf ByteArray.empty r k = x at *
      have hcl := ref_number x wr
      have HR := Lib.hid hR
      have HB0 := Lib.hid hb0
      have HB1 := Lib.hid hb1
      have HBL := Lib.hid hbl
      have HNK := Lib.hid hnk
      have hkn2 : (k : Int) < (r.length : Int) := by omega
      have hown : ∀ j, vN.ownBlock = some j → w.heap.size + 2 ≤ j := hR.1
      have HOW := Lib.hid hown
      have hlim : (nsk.length + 1) * 8 ≤ 140737488355328 := by omega
      have HLI := Lib.hid hlim
      clear htk hx hCr hR hb0 hb1 hbl hnk hown hlim
      rcases hno : numOf x.data.toList with _ | y
      · rw [hno] at hcl
        have HNO := Lib.hid hno
        have HCL := Lib.hid hcl
        clear hcl hno
        go_wp2_with (go_at_call 43; refine HCL.out.mono ?_; rintro e w1 ⟨rfl, hd1⟩; dsimp only [ans]; have hk0 := (hd1.block _ (by omega)).trans HB0.out; have hk1 := (hd1.block _ (by omega)).trans HB1.out; obtain ⟨A2, c2, rfl⟩ := Kd.R_slice HR.out; obtain ⟨⟨k0, k1, k2, k3, k4⟩, _⟩ := cells38 hk1; obtain ⟨⟨d0, d1, d2, d3, d4⟩, ⟨e0, e1, e2, e3, e4⟩⟩ := cells38 hk0; have HD1 := Lib.hid hd1; have HK0 := Lib.hid hk0; clear hd1 hk0 hk1)
        refine bodyPost_ret (results24 _ _ w.heap.size _ _ _ _ _ _ rfl rfl (set5_heap' HK0.out)) rfl ?_
        have e : readRef (v.data.toList :: nm.data.toList :: r.map (·.data.toList)) = none := by
          rw [readRef_cons, if_pos HNA.out]
          show (if isName nm.data.toList = true then restRef v.data.toList [nm.data.toList] (r.map (·.data.toList)) else none) = none
          rw [if_pos HNAM.out]
          unfold restRef
          rw [if_neg (by rw [HBY.out]; simp), numsOf_mem HNO.out HX.out]
        rw [e]
        have hb := HBL.out.trans (HD1.out.mono (by omega))
        exact ⟨hb.grown (set5_grown _ w.heap.size _ _ _ _ _) hb.size (fun k e => by cases e; exact Nat.le_refl _), _, _, _, _, _, _, _, _, _, _, _, rfl⟩
      · rw [hno] at hcl
        have HNO := Lib.hid hno
        have HCL := Lib.hid hcl
        clear hcl hno
        go_wp2_with (first
          | (go_at_call 43; refine HCL.out.mono ?_; rintro e w1 ⟨rfl, hd1⟩; dsimp only [ans]; have hk0 := (hd1.block _ (by omega)).trans HB0.out; have hk1 := (hd1.block _ (by omega)).trans HB1.out; have k3 : w1.cell? ⟨w.heap.size + 1, 3, none⟩ = some vN := blk_cell hk1 3; have HD1 := Lib.hid hd1; have HK0 := Lib.hid hk0; have HK1 := Lib.hid hk1; clear hd1 hk0 hk1)
          | (at_builtin; refine Kd.R_append (Kd.int .i64) (w0 := w1) w.heap.size rfl (.tmp 126) (.tmp 128) 34 2 (.int .i64 0) 8 rfl Tryz.underlying34 info2 rfl (by decide) (by omega) vN nsk y [.int .i64 y] (fun j => w.heap.size + 2 ≤ j) (fun _ => False) rfl rfl ?aP (fun _ hk => hk.elim) ?aF ?aO ?aB ?aS ?aL ?_; (case aP => exact rfl); (case aF => (intro j hj; have := HD1.out.size; omega)); (case aO => exact Kd.R_below HR.out HD1.out); (case aB => exact Below.refl _ _); (case aS => (have := HD1.out.size; omega)); (case aL => exact HLI.out); intro v1 w2 ho hb2 hg2 hat; obtain ⟨A1, q1, rfl⟩ := Kd.R_slice ho; have hne := fun (g : Nat) (hg : g < w.heap.size + 2) (e : some g = vN.ownBlock) => (by have := HOW.out g e.symm; omega : False); have hk0 := blk_grown HK0.out hg2 (hne _ (by omega)); have hk1 := blk_grown HK1.out hg2 (hne _ (by omega)); have c3 : w2.cell? ⟨w.heap.size + 1, 3, none⟩ = some vN := blk_cell hk1 3; have f3 := blk_frozen hk1 3; have HK0b := Lib.hid hk0; have HK1b := Lib.hid hk1; have HO := Lib.hid ho; have HG2 := Lib.hid hg2; clear hk0 hk1 ho hg2 hat hb2 hne))
        go_roundw
        case rel =>
          refine ⟨k + 1, by omega, by go_num, _, nsk ++ [y], blk_far HK0b.out (by simp) _, blk_set HK1b.out 3 _, ?_, ?_, ?_, by rw [List.length_append, HNK.out]; rfl, ⟨?_⟩⟩
          · have h := Kd.R_set HO.out HK1b.out (by simp [Kd.int, Kd.scalar]) 3 (.slice A1 (nsk ++ [y]).length q1)
            simpa using h
          · have hb := HBL.out.trans (HD1.out.mono (by omega))
            exact (hb.grown HG2.out hb.size (fun j e => by have := HOW.out j e; omega)).setCell (by simp) _
          · have := HD1.out.size; have := HG2.out.size; simp; omega
          · rw [HT.out, numsOf_snoc, HN.out, HNO.out]; rfl
        case measure => simp [intOf]; omega
    · obtain rfl : k = r.length := by omega
      have hnum := HN.out
      rw [List.take_length] at hnum
      have HNU := Lib.hid hnum
      obtain ⟨A2, c2, rfl⟩ := Kd.R_slice hR
      obtain ⟨⟨k0, k1, k2, k3, k4⟩, _⟩ := cells38 hb1
      obtain ⟨⟨d0, d1, d2, d3, d4⟩, ⟨e0, e1, e2, e3, e4⟩⟩ := cells38 hb0
      have cv : wr.cell? ⟨b, off, none⟩ = some (.string v) := (hbl.cell (p := ⟨b, off, none⟩) hlt).trans c0'
      have HR := Lib.hid hR
      have HB0 := Lib.hid hb0
      have HBL := Lib.hid hbl
      clear hR hb0 hb1 hbl hnum HN hnk
      have hro : readRef (v.data.toList :: nm.data.toList :: r.map (·.data.toList)) = if countRef v.data.toList r.length = true then some ⟨0, v.data.toList, [nm.data.toList], nsk, []⟩ else none := by
        rw [readRef_cons, if_pos HNA.out]
        show (if isName nm.data.toList = true then restRef v.data.toList [nm.data.toList] (r.map (·.data.toList)) else none) = _
        rw [if_pos HNAM.out]
        unfold restRef
        rw [if_neg (by rw [HBY.out]; simp), HNU.out, List.length_map]
      have HRO := Lib.hid hro
      clear hro
      have hx : (((r.length : Nat) : Int) == 1) = countRef v.data.toList r.length := by
        rw [countRef_tests]
        simp only [t_set, if_true]
      have HX := Lib.hid hx
      clear hx
      go_wp2
      refine bodyPost_ret (results24 _ _ w.heap.size _ _ _ _ _ _ rfl rfl (set5_heap' HB0.out)) rfl ?_
      exact read_leaf HBL.out hsz2 HB0.out HR.out HWIN.out HRO.out HX.out

set_option maxRecDepth 100000 in
set_option maxHeartbeats 2000000 in
theorem read_count_name (b off cap : Nat) (v nm : ByteArray) (r : List ByteArray) (w : World) (hC : Kd.string.C w (some ⟨b, off, none⟩) (v :: nm :: r).length (v :: nm :: r)) (hcap : (v :: nm :: r).length ≤ cap)
    (hnam : isName nm.data.toList = true) (hv : v.data.toList = vCount) (hl : r.length < 4294967295) :
    Calls Tryz.prog 24 #[.slice (some ⟨b, off, none⟩) (v :: nm :: r).length cap] w (ReadPost w (some ⟨b, off, none⟩) (v :: nm :: r) (readRef (v.data.toList :: nm.data.toList :: r.map (·.data.toList)))) := by
  obtain ⟨ad, e0, c0⟩ := Kd.at_string hC 0 (by omega) (by simp only [List.length_cons]; omega)
  cases e0
  have hlt : b < w.heap.size := World.block_lt_of_cell? w _ c0
  have c0' : w.cell? ⟨b, off, none⟩ = some (.string v) := c0
  obtain ⟨A', hcut, hcutC, hcutB⟩ := cutS' (v :: nm :: r) b off cap 1 (by simp) hcap
  have hlr : (v :: nm :: r).length - 1 = (nm :: r).length := by simp
  have hcap1 : (nm :: r).length ≤ cap - 1 := by rw [← hlr]; omega
  obtain ⟨A2, hcut2, hcutC2, hcutB2⟩ := cutS (nm :: r) A' (cap - 1) 1 (by simp) hcap1
  obtain ⟨i9, hi9, _, _, _⟩ := info_parts info9
  have hto := cut_to (P := Tryz.prog) 33 9 .i64 Tryz.underlying33 hi9 A' (nm :: r).length (cap - 1) 1 (by omega) (by simp; omega) hcap1
  have hto1 : ∀ W : World, (Instr.slice 33 (.slice A' (nm :: r).length (cap - 1)) none (some (.int .i64 1)) none).run Tryz.prog W = .ok (.slice A' 1 (cap - 1)) W := hto
  have hcut1 : ∀ W : World, (Instr.slice 33 (.slice (some ⟨b, off, none⟩) (v :: nm :: r).length cap) (some (.int .i64 1)) none none).run Tryz.prog W = .ok (.slice A' ((v :: nm :: r).length - 1) (cap - 1)) W := hcut
  rw [hlr] at hcut1
  have hcut2' : ∀ W : World, (Instr.slice 33 (.slice A' (nm :: r).length (cap - 1)) (some (.int .i64 1)) none none).run Tryz.prog W = .ok (.slice A2 ((nm :: r).length - 1) (cap - 1 - 1)) W := hcut2
  rw [show (nm :: r).length - 1 = r.length by simp] at hcut2'
  have hrc0 : ∀ W : World, Kd.string.C W (some ⟨b, off, none⟩) (v :: nm :: r).length (v :: nm :: r) → Kd.string.C W A' (nm :: r).length (nm :: r) := hcutC
  have hwin : Win (some ⟨b, off, none⟩) (v :: nm :: r) A' 1 (cap - 1) ([nm.data.toList].map mk) := by
    refine ⟨rfl, by simp at hcap1; omega, fun W h => ?_⟩
    have h2 := Kd.C_take (m := 1) (hrc0 W h) (by simp)
    rw [List.map_cons, List.map_nil, mk_of]; exact h2
  have hrc : ∀ W : World, Kd.string.C W (some ⟨b, off, none⟩) (v :: nm :: r).length (v :: nm :: r) → Kd.string.C W A2 r.length r := fun W h => hcutC2 W (hrc0 W h)
  have hl1 : (0 : Int) < ((v :: nm :: r).length : Int) := by simp only [List.length_cons]; omega
  have hl2 : (1 : Int) ≤ ((v :: nm :: r).length : Int) := by simp; omega
  have hvv : v.toList = vCount := by rw [Lib.toList_data]; exact hv
  have t_set : (v.toList == ([115, 101, 116] : List UInt8)) = false := by rw [hvv]; rfl
  have t_count : (v.toList == ([99, 111, 117, 110, 116] : List UInt8)) = true := by rw [hvv]; rfl
  have t_track : (v.toList == ([116, 114, 97, 99, 107] : List UInt8)) = false := by rw [hvv]; rfl
  have t_model : (v.toList == ([109, 111, 100, 101, 108] : List UInt8)) = false := by rw [hvv]; rfl
  have t_row : (v.toList == ([114, 111, 119] : List UInt8)) = false := by rw [hvv]; rfl
  have t_start : (v.toList == ([115, 116, 97, 114, 116] : List UInt8)) = false := by rw [hvv]; rfl
  have t_tracks : (v.toList == ([116, 114, 97, 99, 107, 115] : List UInt8)) = false := by rw [hvv]; rfl
  have t_counts : (v.toList == ([99, 111, 117, 110, 116, 115] : List UInt8)) = false := by rw [hvv]; rfl
  have t_time : (v.toList == ([116, 105, 109, 101] : List UInt8)) = false := by rw [hvv]; rfl
  have t_raw : (v.toList == ([114, 97, 119] : List UInt8)) = false := by rw [hvv]; rfl
  have t_config : (v.toList == ([99, 111, 110, 102, 105, 103] : List UInt8)) = false := by rw [hvv]; rfl
  have hna : namedRef v.data.toList = true := by rw [hv]; rfl
  have hby : bytesRef v.data.toList = false := by rw [hv]; rfl
  have HNA := Lib.hid hna
  have HBY := Lib.hid hby
  have HC := Lib.hid hC
  have HRC := Lib.hid hrc
  have HWIN := Lib.hid hwin
  have HNAM := Lib.hid hnam
  obtain ⟨ad, hAd, hcell⟩ := Kd.at_string (hrc0 w hC) 0 (by omega) (by simp)
  subst hAd
  have hcell1 : w.cell? ad = some (.string nm) := by cases ad; exact hcell
  have hadl : ad.block < w.heap.size := World.block_lt_of_cell? w ad hcell1
  have hcw : ∀ o o2 : Obj, ((w.alloc o).alloc o2).cell? ad = some (.string nm) := fun o o2 => (World.cell?_alloc_lt _ o2 ad (by rw [World.size_alloc]; omega)).trans ((World.cell?_alloc_lt w o ad hadl).trans hcell1)
  have hnm := fun W => ref_name nm W
  rw [hnam] at hnm
  have HNM := Lib.hid (hnm ((w.alloc (.cells #[.int .i64 0, .string ⟨#[]⟩, .slice none 0 0, .slice none 0 0, .slice none 0 0] 38)).alloc (.cells #[.int .i64 0, .string v, .slice none 0 0, .slice none 0 0, .slice none 0 0] 38)))
  have hr0 : (0 : Int) < ((nm :: r).length : Int) := by simp only [List.length_cons]; omega
  have hr1 : (((nm :: r).length : Nat) : Int) ≠ 0 := by simp only [List.length_cons]; omega
  generalize hlen : (v :: nm :: r).length = len at hcut1 hl1 hl2 ⊢
  generalize (nm :: r).length = len1 at hcut1 hcut2' hto1 hr0 hr1
  clear c0 hC hcut hcutC hcutB hlr hna hby hrc0 hrc hcap hvv hv hlen hcell hcell1 hnm hnam hwin hto hcut2 hcutC2 hcutB2 hcap1 hi9
  go_enter Tryz.func24, Tryz.ntmps24
  go_wp2_with (go_at_call 32; refine HNM.out.mono ?_; rintro e w1 ⟨rfl, hd0⟩; dsimp only; have hd1 := drawn_below hd0; have hk0 := (hd1.block w.heap.size (by simp <;> omega)).trans (up (.cells #[.int .i64 0, .string v, .slice none 0 0, .slice none 0 0, .slice none 0 0] 38) (fresh w (.cells #[.int .i64 0, .string ⟨#[]⟩, .slice none 0 0, .slice none 0 0, .slice none 0 0] 38) rfl)); have hk1 := (hd1.block (w.heap.size + 1) (by simp <;> omega)).trans (fresh (w.alloc (.cells #[.int .i64 0, .string ⟨#[]⟩, .slice none 0 0, .slice none 0 0, .slice none 0 0] 38)) (.cells #[.int .i64 0, .string v, .slice none 0 0, .slice none 0 0, .slice none 0 0] 38) (by simp)); have hB1 : Below w.heap.size w w1 := (((Below.refl _ w).alloc (Nat.le_refl _) _).alloc (by simp) _).trans (hd1.mono (by simp <;> omega)); obtain ⟨⟨k0, k1, k2, k3, k4⟩, ⟨f0, f1, f2, f3, f4⟩⟩ := cells38 hk1; have hz1 := hd1.size; simp only [World.size_alloc] at hz1; have cv : w1.cell? ⟨b, off, none⟩ = some (.string v) := (hB1.cell (p := ⟨b, off, none⟩) hlt).trans c0'; have HK0 := Lib.hid hk0; have HK1 := Lib.hid hk1; have HB1 := Lib.hid hB1; clear hd0 hd1 hk0 hk1 hB1)
  obtain ⟨W0, hW0⟩ : ∃ W0, w1.setCell ⟨w.heap.size + 1, 2, none⟩ (.slice (some ad) 1 (cap - 1)) = W0 := ⟨_, rfl⟩
  have q0 : W0.heap[w.heap.size]? = some (.cells #[.int .i64 0, .string ⟨#[]⟩, .slice none 0 0, .slice none 0 0, .slice none 0 0] 38 (0, 0)) := by
    rw [← hW0]; exact blk_far HK0.out (by simp) _
  have q1 : W0.heap[w.heap.size + 1]? = some (.cells #[.int .i64 0, .string v, .slice (some ad) 1 (cap - 1), .slice none 0 0, .slice none 0 0] 38 (0, 0)) := by
    rw [← hW0]; exact blk_set HK1.out 2 _
  have qb : Below w.heap.size w W0 := by rw [← hW0]; exact HB1.out.setCell (by simp) _
  have qs : w.heap.size + 2 ≤ W0.heap.size := by rw [← hW0, World.size_setCell]; omega
  rw [hW0]
  have Q0 := Lib.hid q0
  have Q1 := Lib.hid q1
  have QB := Lib.hid qb
  clear q0 q1 qb hW0 k0 k1 k2 k3 k4 f0 f1 f2 f3 f4 cv hcw
  go_loopw [10] (fun i wr => ∃ (k : Nat), k ≤ r.length ∧ i = .int .i64 k ∧ RI w v (.slice (some ad) 1 (cap - 1)) r k wr) (fun i _ => r.length - (intOf i).toNat)
  case atStart => exact ⟨0, Nat.zero_le _, rfl, _, [], Q0.out, Q1.out, Kd.R_nil _ _ _ _ _, QB.out, by omega, rfl, ⟨rfl⟩⟩
  case round =>
    obtain ⟨k, hk, rfl, vN, nsk, hb0, hb1, hR, hbl, hsz2, hnk, HN⟩ := hrel
    by_cases hkn : k < r.length
    · have hCr : Kd.string.C wr A2 r.length r := HRC.out wr (Kd.C_below HC.out hbl)
      obtain ⟨ad, hAe, hcell⟩ := Kd.at_string hCr k (by omega) (by omega)
      subst hAe
      rw [Int.toNat_natCast] at hcell
      have htk : (r.take (k + 1)).map (·.data.toList) = (r.take k).map (·.data.toList) ++ [(rdOf ByteArray.empty r k).data.toList] := by
        rw [List.take_succ_eq_append_getElem (by omega), List.map_append]
        unfold rdOf
        rw [Int.toNat_natCast, List.getD_eq_getElem?_getD, List.getElem?_eq_getElem (by omega), Option.getD_some]; rfl
      have hx : rdOf ByteArray.empty r k ∈ r := by
        unfold rdOf
        rw [Int.toNat_natCast, List.getD_eq_getElem?_getD, List.getElem?_eq_getElem (by omega), Option.getD_some]
        exact List.getElem_mem _
      have HT := Lib.hid htk
      have HX := Lib.hid hx
      generalize rdOf ByteArray.empty r k = x at *
      have hcl := ref_number x wr
      have HR := Lib.hid hR
      have HB0 := Lib.hid hb0
      have HB1 := Lib.hid hb1
      have HBL := Lib.hid hbl
      have HNK := Lib.hid hnk
      have hkn2 : (k : Int) < (r.length : Int) := by omega
      have hown : ∀ j, vN.ownBlock = some j → w.heap.size + 2 ≤ j := hR.1
      have HOW := Lib.hid hown
      have hlim : (nsk.length + 1) * 8 ≤ 140737488355328 := by omega
      have HLI := Lib.hid hlim
      clear htk hx hCr hR hb0 hb1 hbl hnk hown hlim
      rcases hno : numOf x.data.toList with _ | y
      · rw [hno] at hcl
        have HNO := Lib.hid hno
        have HCL := Lib.hid hcl
        clear hcl hno
        go_wp2_with (go_at_call 43; refine HCL.out.mono ?_; rintro e w1 ⟨rfl, hd1⟩; dsimp only [ans]; have hk0 := (hd1.block _ (by omega)).trans HB0.out; have hk1 := (hd1.block _ (by omega)).trans HB1.out; obtain ⟨A2, c2, rfl⟩ := Kd.R_slice HR.out; obtain ⟨⟨k0, k1, k2, k3, k4⟩, _⟩ := cells38 hk1; obtain ⟨⟨d0, d1, d2, d3, d4⟩, ⟨e0, e1, e2, e3, e4⟩⟩ := cells38 hk0; have HD1 := Lib.hid hd1; have HK0 := Lib.hid hk0; clear hd1 hk0 hk1)
        refine bodyPost_ret (results24 _ _ w.heap.size _ _ _ _ _ _ rfl rfl (set5_heap' HK0.out)) rfl ?_
        have e : readRef (v.data.toList :: nm.data.toList :: r.map (·.data.toList)) = none := by
          rw [readRef_cons, if_pos HNA.out]
          show (if isName nm.data.toList = true then restRef v.data.toList [nm.data.toList] (r.map (·.data.toList)) else none) = none
          rw [if_pos HNAM.out]
          unfold restRef
          rw [if_neg (by rw [HBY.out]; simp), numsOf_mem HNO.out HX.out]
        rw [e]
        have hb := HBL.out.trans (HD1.out.mono (by omega))
        exact ⟨hb.grown (set5_grown _ w.heap.size _ _ _ _ _) hb.size (fun k e => by cases e; exact Nat.le_refl _), _, _, _, _, _, _, _, _, _, _, _, rfl⟩
      · rw [hno] at hcl
        have HNO := Lib.hid hno
        have HCL := Lib.hid hcl
        clear hcl hno
        go_wp2_with (first
          | (go_at_call 43; refine HCL.out.mono ?_; rintro e w1 ⟨rfl, hd1⟩; dsimp only [ans]; have hk0 := (hd1.block _ (by omega)).trans HB0.out; have hk1 := (hd1.block _ (by omega)).trans HB1.out; have k3 : w1.cell? ⟨w.heap.size + 1, 3, none⟩ = some vN := blk_cell hk1 3; have HD1 := Lib.hid hd1; have HK0 := Lib.hid hk0; have HK1 := Lib.hid hk1; clear hd1 hk0 hk1)
          | (at_builtin; refine Kd.R_append (Kd.int .i64) (w0 := w1) w.heap.size rfl (.tmp 126) (.tmp 128) 34 2 (.int .i64 0) 8 rfl Tryz.underlying34 info2 rfl (by decide) (by omega) vN nsk y [.int .i64 y] (fun j => w.heap.size + 2 ≤ j) (fun _ => False) rfl rfl ?aP (fun _ hk => hk.elim) ?aF ?aO ?aB ?aS ?aL ?_; (case aP => exact rfl); (case aF => (intro j hj; have := HD1.out.size; omega)); (case aO => exact Kd.R_below HR.out HD1.out); (case aB => exact Below.refl _ _); (case aS => (have := HD1.out.size; omega)); (case aL => exact HLI.out); intro v1 w2 ho hb2 hg2 hat; obtain ⟨A1, q1, rfl⟩ := Kd.R_slice ho; have hne := fun (g : Nat) (hg : g < w.heap.size + 2) (e : some g = vN.ownBlock) => (by have := HOW.out g e.symm; omega : False); have hk0 := blk_grown HK0.out hg2 (hne _ (by omega)); have hk1 := blk_grown HK1.out hg2 (hne _ (by omega)); have c3 : w2.cell? ⟨w.heap.size + 1, 3, none⟩ = some vN := blk_cell hk1 3; have f3 := blk_frozen hk1 3; have HK0b := Lib.hid hk0; have HK1b := Lib.hid hk1; have HO := Lib.hid ho; have HG2 := Lib.hid hg2; clear hk0 hk1 ho hg2 hat hb2 hne))
        go_roundw
        case rel =>
          refine ⟨k + 1, by omega, by go_num, _, nsk ++ [y], blk_far HK0b.out (by simp) _, blk_set HK1b.out 3 _, ?_, ?_, ?_, by rw [List.length_append, HNK.out]; rfl, ⟨?_⟩⟩
          · have h := Kd.R_set HO.out HK1b.out (by simp [Kd.int, Kd.scalar]) 3 (.slice A1 (nsk ++ [y]).length q1)
            simpa using h
          · have hb := HBL.out.trans (HD1.out.mono (by omega))
            exact (hb.grown HG2.out hb.size (fun j e => by have := HOW.out j e; omega)).setCell (by simp) _
          · have := HD1.out.size; have := HG2.out.size; simp; omega
          · rw [HT.out, numsOf_snoc, HN.out, HNO.out]; rfl
        case measure => simp [intOf]; omega
    · obtain rfl : k = r.length := by omega
      have hnum := HN.out
      rw [List.take_length] at hnum
      have HNU := Lib.hid hnum
      obtain ⟨A2, c2, rfl⟩ := Kd.R_slice hR
      obtain ⟨⟨k0, k1, k2, k3, k4⟩, _⟩ := cells38 hb1
      obtain ⟨⟨d0, d1, d2, d3, d4⟩, ⟨e0, e1, e2, e3, e4⟩⟩ := cells38 hb0
      have cv : wr.cell? ⟨b, off, none⟩ = some (.string v) := (hbl.cell (p := ⟨b, off, none⟩) hlt).trans c0'
      have HR := Lib.hid hR
      have HB0 := Lib.hid hb0
      have HBL := Lib.hid hbl
      clear hR hb0 hb1 hbl hnum HN hnk
      have hro : readRef (v.data.toList :: nm.data.toList :: r.map (·.data.toList)) = if countRef v.data.toList r.length = true then some ⟨0, v.data.toList, [nm.data.toList], nsk, []⟩ else none := by
        rw [readRef_cons, if_pos HNA.out]
        show (if isName nm.data.toList = true then restRef v.data.toList [nm.data.toList] (r.map (·.data.toList)) else none) = _
        rw [if_pos HNAM.out]
        unfold restRef
        rw [if_neg (by rw [HBY.out]; simp), HNU.out, List.length_map]
      have HRO := Lib.hid hro
      clear hro
      have hx : (((r.length : Nat) : Int) == 0) = countRef v.data.toList r.length := by
        rw [countRef_tests]
        simp only [t_set, t_track, t_model, t_row, t_start, t_tracks, t_counts, t_time, t_count, Bool.false_eq_true, if_true, if_false]
      have HX := Lib.hid hx
      clear hx
      go_wp2
      refine bodyPost_ret (results24 _ _ w.heap.size _ _ _ _ _ _ rfl rfl (set5_heap' HB0.out)) rfl ?_
      exact read_leaf HBL.out hsz2 HB0.out HR.out HWIN.out HRO.out HX.out
end Go.Proofs.YtfiacgkhkonilaaGreatDoor
