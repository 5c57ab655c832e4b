/- Part 4 of a proof: Words27, Equal, ReadLaws, AnyIn, Err -/
import Derived.Test.YtfiacgkhkonilaaGreatDoorBackPart3
import Derived.StillTailTactics
import Derived.Deep.RegionLaw
import Derived.Test.YtfiacgkhkonilaaGreatDoorPTextx0
import Derived.Lib.Hide
/- The walk of (Command).words: a command's words. -/
namespace Go.Proofs.YtfiacgkhkonilaaGreatDoor
open Go Go.RowKit Go.Proofs.YtfiacgkhkonilaaGreatDoorW.PrintWords Go.Proofs.YtfiacgkhkonilaaGreatDoorW.PrintLast Go.Proofs.YtfiacgkhkonilaaGreatDoorW.PrintMore

theorem R_one_string (W : World) (base : Nat) (v : ByteArray) (hb : base ≤ W.heap.size) : Kd.string.R 9 (W.alloc (.cells #[.string v] 9)) base (fun _ => True) (.slice (some ⟨W.heap.size, 0, none⟩) 1 1) [v] := by
  have h := World.ownsRow_lit (base := base) (e := 9) (size := 1) W (encs Value.string [v]).toArray 1 hb (by decide) (by simp [encs])
  exact Kd.R_of_own (xs := [v]) h (fun _ _ => trivial)

/-- What words makes. -/
def wordVals (v : ByteArray) (ws : List ByteArray) (ns bs : List Int) : List ByteArray := v :: ws ++ (ns.map fun n => mk (Lib.itoa n)) ++ if bs = [] then [] else [mk (hexW bs)]

theorem and15 (x : Int) (h0 : 0 ≤ x) (h1 : x < 256) : bits .and .u8 x 15 = x % 16 := by
  have : ∀ n, n < 256 → bits .and .u8 ((n : Nat) : Int) 15 = ((n % 16 : Nat) : Int) := by decide +kernel
  obtain ⟨n, rfl⟩ := Int.eq_ofNat_of_zero_le h0
  rw [this n (by omega)]; omega
theorem reads_two (W : World) (p q : Int) : (Kd.int .u8).C (W.alloc (.cells #[.int .u8 p, .int .u8 q] 5)) (some ⟨W.heap.size, 0, none⟩) 2 [p, q] := by
  have h := World.ownsRow_lit (base := W.heap.size) (e := 5) (size := 1) W (encs (Value.int .u8) [p, q]).toArray 2 (Nat.le_refl _) (by decide) (by simp [encs])
  have hr : (Kd.int .u8).R 5 (W.alloc (.cells #[.int .u8 p, .int .u8 q] 5)) W.heap.size (fun _ => True) (.slice (some ⟨W.heap.size, 0, none⟩) 2 2) [p, q] := Kd.R_of_own (xs := [p, q]) h (fun _ _ => trivial)
  exact (Kd.R_reads' hr).2.2
theorem hexW_len (bs : List Int) : (hexW bs).length = 2 * bs.length := by
  induction bs with
  | nil => rfl
  | cons b r ih => simp [hexW] at ih ⊢; omega
theorem hex_at (i : Nat) (h : i < (⟨#[48, 49, 50, 51, 52, 53, 54, 55, 56, 57, 97, 98, 99, 100, 101, 102]⟩ : ByteArray).size) : ((⟨#[48, 49, 50, 51, 52, 53, 54, 55, 56, 57, 97, 98, 99, 100, 101, 102]⟩ : ByteArray)[i]'h).toNat = (hexa.getD i 0).toNat := by
  have : ∀ i (h : i < 16), ((⟨#[48, 49, 50, 51, 52, 53, 54, 55, 56, 57, 97, 98, 99, 100, 101, 102]⟩ : ByteArray)[i]'h).toNat = (hexa.getD i 0).toNat := by decide +kernel
  exact this i h
theorem hexW_snoc (bs : List Int) (x : Int) : hexW (bs ++ [x]) = hexW bs ++ [hexa.getD (x.toNat / 16) 0, hexa.getD (x.toNat % 16) 0] := by simp [hexW]
theorem str_of (l : B) : strOfNums (l.map fun c => (c.toNat : Int)) = mk l := by
  unfold strOfNums mk
  congr 1
  rw [List.map_map]
  congr 1
  conv => rhs; rw [← List.map_id l]
  apply List.map_congr_left
  intro c _
  simp
/-- The two loops' relations. -/
def WL1 (w : World) (o : Obj) (pre : List ByteArray) (ns : List Int) (vo i : Value) (wr : World) : Prop := ∃ k : Nat, k ≤ ns.length ∧ i = .int .i64 k ∧ wr.heap[w.heap.size]? = some o ∧
  Kd.string.R 9 wr (w.heap.size + 1) (fun _ => True) vo (pre ++ (ns.take k).map fun n => mk (Lib.itoa n)) ∧ Below w.heap.size w wr
def WL2 (w5 : World) (bs : List Int) (vo i : Value) (wr : World) : Prop := ∃ k : Nat, k ≤ bs.length ∧ i = .int .i64 k ∧ (Kd.int .u8).R 5 wr w5.heap.size (fun _ => True) vo ((hexW (bs.take k)).map fun c => (c.toNat : Int)) ∧ Below w5.heap.size w5 wr
set_option maxRecDepth 100000 in
set_option maxHeartbeats 1000000 in
theorem words_call (l : Int) (v : ByteArray) (A1 A2 A3 : Option Addr) (c1 c2 c3 : Nat) (ws : List ByteArray) (ns bs : List Int) (w : World) (he : Env w)
    (hC1 : Kd.string.C w A1 ws.length ws) (hC2 : (Kd.int .i64).C w A2 ns.length ns) (hC3 : (Kd.int .u8).C w A3 bs.length bs) (_hl1 : ws.length ≤ c1) (_hl2 : ns.length ≤ c2) (_hl3 : bs.length ≤ c3)
    (hs1 : ws.length ≤ 1000000) (hs2 : ns.length ≤ 1000000) (hs3 : bs.length ≤ 1000000) (hn : ∀ n ∈ ns, -9223372036854775808 ≤ n ∧ n ≤ 9223372036854775807) (hb : ∀ b ∈ bs, 0 ≤ b ∧ b < 256) :
    Calls Tryz.prog 27 #[.agg #[.int .i64 l, .string v, .slice A1 ws.length c1, .slice A2 ns.length c2, .slice A3 bs.length c3]] w fun e w' => ∃ v', e = .returned v' ∧ Kd.string.R 9 w' w.heap.size (fun _ => True) v' (wordVals v ws ns bs) ∧ Below w.heap.size w w' := by
  obtain ⟨o, ho⟩ : ∃ o : Obj, o = .cells #[.int .i64 l, .string v, .slice A1 ws.length c1, .slice A2 ns.length c2, .slice A3 bs.length c3] 37 := ⟨_, rfl⟩
  have hb0 : Below w.heap.size w (w.alloc o) := (Below.refl w.heap.size w).alloc (Nat.le_refl _) _
  have hr1 : Kd.string.R 9 ((w.alloc o).alloc (.cells #[.string v] 9)) (w.heap.size + 1) (fun _ => True) (.slice (some ⟨w.heap.size + 1, 0, none⟩) 1 1) [v] := by
    have h := R_one_string (w.alloc o) (w.heap.size + 1) v (by rw [World.size_alloc]; exact Nat.le_refl _)
    rwa [World.size_alloc] at h
  have hcw := Kd.C_below hC1 (hb0.alloc (by simp) (.cells #[.string v] 9))
  have hbx : ((w.alloc o).alloc (.cells #[.string v] 9)).heap[w.heap.size]? = some o := blk_alloc (blk_new w o) _
  have HO := Lib.hid ho
  have HE := Lib.hid he
  have H2 := Lib.hid hC2
  have H3 := Lib.hid hC3
  have HN := Lib.hid hn
  have HB := Lib.hid hb
  have HR1 := Lib.hid hr1
  have HCW := Lib.hid hcw
  have HBX := Lib.hid hbx
  have HB0 := Lib.hid hb0
  subst ho
  clear he hC1 hC2 hC3 hn hb hr1 hcw hbx hb0
  go_enter Tryz.func27, Tryz.ntmps27
  go_wp2_with (at_builtin; refine Kd.R_append_rows Kd.string (w0 := w.alloc (.cells #[.int .i64 l, .string v, .slice A1 ws.length c1, .slice A2 ns.length c2, .slice A3 bs.length c3] 37)) (Rr := Kd.string.K w) (w.heap.size + 1) rfl (.tmp 11) (.tmp 13) 33 9 (.string ⟨#[]⟩) 16 rfl Tryz.underlying33 info9 rfl (by decide) (by omega) (.slice (some ⟨w.heap.size + 1, 0, none⟩) 1 1) [v] ws A1 ws.length c1 (fun _ => True) (fun _ => False) rfl rfl ?aO ?aR (fun _ _ h => h) (fun _ hk => hk.elim) (fun _ _ => trivial) ?aB ?aS ?aL ?_; (case aO => exact HR1.out); (case aR => exact HCW.out); (case aB => exact (Below.refl _ _).alloc (by simp) _); (case aS => simp); (case aL => simp; omega); intro v1 w1 ho1 hb1 hg1 hat1; have hbk := (hb1.block w.heap.size (Nat.lt_succ_self _)).trans (blk_new w _); have q3 : w1.cell? ⟨w.heap.size, 3, none⟩ = some (.slice A2 ns.length c2) := blk_cell hbk 3; have HBK := Lib.hid hbk; have HO1 := Lib.hid ho1; have HW1 := Lib.hid (HB0.out.trans (hb1.mono (Nat.le_succ _))); clear hbk ho1 hb1 hg1 hat1)
  clear q3
  go_loopw [3, 18] (fun vo i wr => WL1 w (.cells #[.int .i64 l, .string v, .slice A1 ws.length c1, .slice A2 ns.length c2, .slice A3 bs.length c3] 37) (v :: ws) ns vo i wr) (fun _ i _ => ns.length - (intOf i).toNat)
  case atStart => exact ⟨0, Nat.zero_le _, rfl, HBK.out, by simpa using HO1.out, HW1.out⟩
  case round =>
    obtain ⟨k, hk, rfl, hbk, hR, hbw⟩ := hrel
    by_cases hkn : k < ns.length
    · have hC2 := Kd.C_below H2.out hbw
      obtain ⟨ad, rfl, hcell⟩ := Kd.at_int hC2 k (by omega) (by omega)
      rw [Int.toNat_natCast] at hcell
      have hmem : rd ns k ∈ ns := by
        unfold rd
        rw [Int.toNat_natCast, List.getD_eq_getElem?_getD, List.getElem?_eq_getElem hkn, Option.getD_some]
        exact List.getElem_mem _
      have htk : ns.take (k + 1) = ns.take k ++ [rd ns k] := by
        rw [List.take_succ_eq_append_getElem hkn]
        unfold rd
        rw [Int.toNat_natCast, List.getD_eq_getElem?_getD, List.getElem?_eq_getElem hkn, Option.getD_some]
      have hcl := format_any (rd ns k) (HN.out _ hmem).1 (HN.out _ hmem).2 wr (HE.out.below hbw)
      have hkn2 : (k : Int) < (ns.length : Int) := by omega
      have hll : ((v :: ws) ++ (ns.take k).map fun n => mk (Lib.itoa n)).length ≤ 3000000 := by
        simp only [List.length_append, List.length_cons, List.length_map, List.length_take]; omega
      have HT := Lib.hid htk
      have HCL := Lib.hid hcl
      have HR := Lib.hid hR
      have HBK2 := Lib.hid hbk
      have HBW := Lib.hid hbw
      have HLL := Lib.hid hll
      have hsz : w.heap.size + 1 ≤ wr.heap.size := blk_lt hbk
      generalize rd ns k = y at *
      clear hbk hR hbw hC2 hmem htk hcl hll
      go_wp2_with (first
        | (go_at_call 48; refine HCL.out.mono ?_; rintro e w2 ⟨rfl, hb2⟩; have HB2 := Lib.hid hb2; have hsz2 : w.heap.size + 1 ≤ w2.heap.size := Nat.le_trans hsz hb2.size; clear hb2)
        | (at_builtin; refine Kd.R_append Kd.string (w0 := w2) (w.heap.size + 1) rfl (.tmp 22) (.tmp 25) 33 9 (.string ⟨#[]⟩) 16 rfl Tryz.underlying33 info9 rfl (by decide) (by omega) u3 ((v :: ws) ++ (ns.take k).map fun n => mk (Lib.itoa n)) (mk (Lib.itoa y)) [.string (mk (Lib.itoa y))] (fun _ => True) (fun _ => False) rfl rfl ?aP (fun _ hk => hk.elim) (fun _ _ => trivial) ?aO ?aB ?aS ?aL ?_; (case aP => exact rfl); (case aO => exact Kd.R_below HR.out HB2.out); (case aB => exact Below.refl _ _); (case aS => exact hsz2); (case aL => have := HLL.out; omega); intro v3 w3 ho3 hb3 hg3 hat3; have HO3 := Lib.hid ho3; have HB3 := Lib.hid hb3; clear ho3 hb3 hg3 hat3))
      go_roundw
      case rel =>
        refine ⟨k + 1, by omega, by go_num, ?_, ?_, ?_⟩
        · exact (HB3.out.block _ (Nat.lt_succ_self _)).trans ((HB2.out.block _ hsz).trans HBK2.out)
        · rw [HT.out, List.map_append, ← List.append_assoc]
          exact HO3.out
        · exact (HBW.out.trans (HB2.out.mono HBW.out.size)).trans (HB3.out.mono (Nat.le_succ _))
      case measure => simp [intOf]; omega
    · obtain rfl : k = ns.length := by omega
      clear hkn
      rw [List.take_length] at hR
      have q4 : wr.cell? ⟨w.heap.size, 4, none⟩ = some (.slice A3 bs.length c3) := blk_cell hbk 4
      have hsz : w.heap.size + 1 ≤ wr.heap.size := blk_lt hbk
      have HR := Lib.hid hR
      have HBK2 := Lib.hid hbk
      have HBW := Lib.hid hbw
      clear hbk hR hbw
      by_cases hbs : bs = []
      · have h0 : ¬ (0 : Int) < (bs.length : Int) := by rw [hbs]; simp
        have HBS := Lib.hid hbs
        clear hbs
        go_wp2
        go_ret
        refine ⟨_, rfl, ?_, HBW.out⟩
        rw [wordVals, if_pos HBS.out, List.append_nil]
        exact Kd.R_lower HR.out (Nat.le_succ _)
      · have h0 : (0 : Int) < (bs.length : Int) := by
          cases bs with
          | nil => exact absurd rfl hbs
          | cons b r => simp
        have h0n : decide (0 < bs.length) = true := decide_eq_true (by omega)
        have HBS := Lib.hid hbs
        clear hbs
        go_wp2
        clear q4
        generalize wr = w5 at *
        go_loopw [6, 35] (fun vo i wq => WL2 w5 bs vo i wq) (fun _ i _ => bs.length - (intOf i).toNat)
        case atStart => exact ⟨0, Nat.zero_le _, rfl, Kd.R_nil _ _ _ _ _, Below.refl _ _⟩
        case round =>
          obtain ⟨j, hj, rfl, hRb, hbq⟩ := hrel
          by_cases hjn : j < bs.length
          · have hC3 := Kd.C_below (Kd.C_below H3.out HBW.out) hbq
            obtain ⟨ad, rfl, hcell⟩ := Kd.at_int hC3 j (by omega) (by omega)
            rw [Int.toNat_natCast] at hcell
            have hmem : rd bs j ∈ bs := by
              unfold rd
              rw [Int.toNat_natCast, List.getD_eq_getElem?_getD, List.getElem?_eq_getElem hjn, Option.getD_some]
              exact List.getElem_mem _
            have hbb := HB.out _ hmem
            have htk : bs.take (j + 1) = bs.take j ++ [rd bs j] := by
              rw [List.take_succ_eq_append_getElem hjn]
              unfold rd
              rw [Int.toNat_natCast, List.getD_eq_getElem?_getD, List.getElem?_eq_getElem hjn, Option.getD_some]
            have hjn2 : (j : Int) < (bs.length : Int) := by omega
            have HT := Lib.hid htk
            have HRB := Lib.hid hRb
            have HBQ := Lib.hid hbq
            generalize rd bs j = x at *
            obtain ⟨x0, x1⟩ := hbb
            clear hRb hbq hC3 hmem htk
            have g0 : 0 ≤ x / 16 := by omega
            have g1 : x / 16 < 16 := by omega
            have g2 : 0 ≤ bits .and .u8 x 15 := by rw [and15 x x0 x1]; omega
            have g3 : bits .and .u8 x 15 < 16 := by rw [and15 x x0 x1]; omega
            have hll : ((hexW (bs.take j)).map fun c => (c.toNat : Int)).length + 2 ≤ 3000000 := by
              rw [List.length_map, hexW_len, List.length_take]; omega
            have HLL := Lib.hid hll
            clear hll
            go_wp2
            go_region_law (refine Kd.R_append_rows_step (Kd.int .u8) (w0 := wr) (Rr := (Kd.int .u8).K w) w5.heap.size rfl (.tmp 39) (.tmp 46) 35 5 (.int .u8 0) 1 rfl Tryz.underlying35 info5 rfl (by decide) (by omega) u6 ((hexW (bs.take j)).map fun c => (c.toNat : Int)) ?ys (some ⟨wr.heap.size, 0, none⟩) 2 2 (fun _ => True) (fun _ => False) rfl rfl ?aO ?aR (fun _ _ h => h) (fun _ hk => hk.elim) (fun _ _ => trivial) ?aB ?aS ?aL ?_; (case aR => exact reads_two _ _ _); (case aO => exact Kd.R_drew (Kd.R_alloc HRB.out _)); (case aB => exact ((Below.refl _ _).alloc HBQ.out.size _).drew); (case aS => exact Nat.le_trans HBQ.out.size (by simp)); (case aL => have := HLL.out; omega); intro v3 w3 ho3 hb3 hg3 hat3; have HO3 := Lib.hid ho3; have HB3 := Lib.hid hb3; clear ho3 hb3 hg3 hat3)
            all_goals
              go_wp2
              go_roundw
              case rel =>
                refine ⟨j + 1, by omega, by go_num, ?_, HBQ.out.trans HB3.out⟩
                have h := HO3.out
                rw [hex_at, hex_at, and15 x x0 x1] at h
                rw [HT.out, hexW_snoc, List.map_append, show x.toNat / 16 = (x / 16).toNat by omega, show x.toNat % 16 = (x % 16).toNat by omega]
                exact h
              case measure => simp [intOf]; omega
          · obtain rfl : j = bs.length := by omega
            rw [List.take_length] at hRb
            obtain ⟨A4, q4, rfl⟩ := Kd.R_slice hRb
            have hconv := Kd.C_string (P := Tryz.prog) (src := 35) (dst := 9) (c := q4) Tryz.underlying35 Tryz.underlying5 Tryz.underlying9 (Kd.R_reads' hRb).2.2
            rw [str_of, List.length_map] at hconv
            have HR4 := Lib.hid (Kd.R_below HR.out hbq)
            have HBQ := Lib.hid hbq
            have hszq : w.heap.size + 1 ≤ wr.heap.size := Nat.le_trans hsz hbq.size
            have hll : ((v :: ws) ++ ns.map fun n => mk (Lib.itoa n)).length ≤ 3000000 := by
              simp only [List.length_append, List.length_cons, List.length_map]; omega
            have HLL := Lib.hid hll
            clear hRb hbq hjn hll
            go_wp2_with (at_builtin; refine Kd.R_append Kd.string (w0 := wr) (w.heap.size + 1) rfl (.tmp 49) (.tmp 52) 33 9 (.string ⟨#[]⟩) 16 rfl Tryz.underlying33 info9 rfl (by decide) (by omega) u3 ((v :: ws) ++ ns.map fun n => mk (Lib.itoa n)) (mk (hexW bs)) [.string (mk (hexW bs))] (fun _ => True) (fun _ => False) rfl rfl ?aP (fun _ hk => hk.elim) (fun _ _ => trivial) ?aO ?aB ?aS ?aL ?_; (case aP => exact rfl); (case aO => exact HR4.out); (case aB => exact Below.refl _ _); (case aS => exact hszq); (case aL => have := HLL.out; omega); intro v3 w3 ho3 hb3 hg3 hat3; have HO3 := Lib.hid ho3; have HB3 := Lib.hid hb3; clear ho3 hb3 hg3 hat3)
            go_ret
            refine ⟨_, rfl, ?_, (HBW.out.trans (HBQ.out.mono HBW.out.size)).trans (HB3.out.mono (Nat.le_succ _))⟩
            rw [wordVals, if_neg HBS.out]
            exact Kd.R_lower HO3.out (Nat.le_succ _)
end Go.Proofs.YtfiacgkhkonilaaGreatDoor

/- slices.Equal at three types: the walks that print.sh wrote for this program, kept apart from the rest of its print. -/
namespace Go.Proofs.YtfiacgkhkonilaaGreatDoor.PText
open Go.RowKit Go.Proofs.YtfiacgkhkonilaaGreatDoorW.PrintWords Go.Proofs.YtfiacgkhkonilaaGreatDoorW.PrintLast Go.Proofs.YtfiacgkhkonilaaGreatDoorW.PrintMore
attribute [local go_sem] max2_int min2_int max_two min_two max_three min_three max_four min_four   -- for this text's walks alone
set_option linter.unusedVariables false
set_option linter.unusedSimpArgs false

















/-! ### slices_Equal_string_string: function 28 -/
def slices_Equal_string_string.l0 : Nat → List ByteArray → List ByteArray → Int → Int → Option (Bool)
  | 0, _, _, _, _ => none
  | k + 1, x0, x1, x12, x13 => if x13 < x12 then (if 0 ≤ x13 then (if x13 < (x0.length : Int) then (if x13 < (x1.length : Int) then (if (rdOf ByteArray.empty x0 x13).toList = (rdOf ByteArray.empty x1 x13).toList then (slices_Equal_string_string.l0 k x0 x1 x12 (wrap64 (x13 + 1))) else (some false)) else (none)) else (none)) else (none)) else (some true)
def slices_Equal_string_string.f (k : Nat) (l0 : List ByteArray) (l1 : List ByteArray) : Option (Bool) := if (l0.length : Int) = (l1.length : Int) then (slices_Equal_string_string.l0 k l0 l1 (l0.length : Int) 0) else (some false)
theorem slices_Equal_string_string.mono_l : ∀ k, (∀ y0 y1 y2 y3, LeO (slices_Equal_string_string.l0 k y0 y1 y2 y3) (slices_Equal_string_string.l0 (k + 1) y0 y1 y2 y3))
  | 0 => fun _ _ _ _ r h => by simp [slices_Equal_string_string.l0] at h
  | k + 1 => by
    have ih0 := slices_Equal_string_string.mono_l k
    · intro y0 y1 y2 y3
      unfold slices_Equal_string_string.l0
      repeat' first
      | (with_reducible exact ih0 _ _ _ _)
      | (with_reducible exact LeO.refl _)
      | (with_reducible exact LeO.none _)
      | (with_reducible refine LeO.ite ?_ ?_)
      | (with_reducible refine LeO.bind ?_ (fun _ => ?_))
      | exact ih0 _ _ _ _
      | exact LeO.none _
      | refine LeO.ite ?_ ?_
      | refine LeO.bind ?_ (fun _ => ?_)
theorem slices_Equal_string_string.mono : ∀ a0 a1 k, LeO (slices_Equal_string_string.f k a0 a1) (slices_Equal_string_string.f (k + 1) a0 a1) := by
  intro a0 a1 k
  have ih0 := slices_Equal_string_string.mono_l k
  unfold slices_Equal_string_string.f
  repeat' first
      | (with_reducible exact ih0 _ _ _ _)
      | (with_reducible exact LeO.refl _)
      | (with_reducible exact LeO.none _)
      | (with_reducible refine LeO.ite ?_ ?_)
      | (with_reducible refine LeO.bind ?_ (fun _ => ?_))
      | exact ih0 _ _ _ _
      | exact LeO.none _
      | refine LeO.ite ?_ ?_
      | refine LeO.bind ?_ (fun _ => ?_)
set_option maxHeartbeats 8000000 in
set_option maxRecDepth 100000 in
theorem slices_Equal_string_string.calls (k : Nat) (A0 : Option Addr) (c0 : Nat) (l0 : List ByteArray) (A1 : Option Addr) (c1 : Nat) (l1 : List ByteArray) (r : Bool) (w : World) (hr0 : Kd.C Kd.string w A0 l0.length l0) (hc0 : l0.length ≤ c0) (hr1 : Kd.C Kd.string w A1 l1.length l1) (hc1 : l1.length ≤ c1) (h : slices_Equal_string_string.f k l0 l1 = some r) :
    Calls Tryz.prog 28 #[.slice A0 l0.length c0, .slice A1 l1.length c1] w fun e w' => e = .returned (.bool r) ∧ Drawn0 w w' := by
  have HR0 := Aside0.mk hr0
  have HC0 := Aside0.mk hc0
  clear hr0 hc0
  have HR1 := Aside0.mk hr1
  have HC1 := Aside0.mk hc1
  clear hr1 hc1
  have H : (if (l0.length : Int) = (l1.length : Int) then (slices_Equal_string_string.l0 k l0 l1 (l0.length : Int) 0) else (some false)) = some r := h
  clear h
  by_cases c3 : (l0.length : Int) = (l1.length : Int)
  · rw [if_pos c3] at H
    have c3b0 : ((l0.length : Int) == (l1.length : Int)) = true := beq_iff_eq.mpr c3
    have c3b1 : ((l0.length : Int) != (l1.length : Int)) = false := bne_eq_false_iff_eq.mpr c3
    have c3b2 : (l0.length == l1.length) = true := by first | simpa using c3 | (simp at c3 ⊢; omega)
    clear c3
    have H' := Aside0.mk H
    clear H
    go_enter Tryz.func28, Tryz.ntmps28
    go_wp2
    repeat (go_quiet (fail); try go_wp2)
    go_loopg [13] k (fun kq v13 w' => ∃ (x13_1 : Int), v13 = .int .i64 x13_1 ∧ Aside0 (slices_Equal_string_string.l0 kq l0 l1 (l0.length : Int) x13_1 = some r) ∧ Aside0 (kq ≤ k) ∧ Drawn0 w w')
    case atStart => exact ⟨(0), (by first | rfl | (simp; done) | (simp [*]; done)), H', ⟨Nat.le_refl _⟩, by repeat (first | exact Drawn0.refl _ | apply Drawn0.step)⟩
    case round =>
      clear H'
      try clear c1
      try clear c2
      try clear p2
      try clear c3
      try clear c3b0
      try clear c3b1
      try clear c3b2
      obtain ⟨x13_1, rfl, HA, HK1, ⟨m1, rfl⟩⟩ := hrel
      cases gk with
      | zero => exact absurd HA.out (by simp [slices_Equal_string_string.l0])
      | succ k1 =>
        have H := HA.out
        clear HA
        simp only [slices_Equal_string_string.l0] at H
        by_cases c4 : x13_1 < (l0.length : Int)
        · rw [if_pos c4] at H
          have c4b0 : decide (x13_1 < (l0.length : Int)) = true := decide_eq_true c4
          clear c4
          by_cases c5 : 0 ≤ x13_1
          · rw [if_pos c5] at H
            have c5b0 : decide (0 ≤ x13_1) = true := decide_eq_true c5
            clear c5
            by_cases c6 : x13_1 < (l0.length : Int)
            · rw [if_pos c6] at H
              have c6b0 : decide (x13_1 < (l0.length : Int)) = true := decide_eq_true c6
              clear c6
              by_cases c7 : x13_1 < (l1.length : Int)
              · rw [if_pos c7] at H
                have c7b0 : decide (x13_1 < (l1.length : Int)) = true := decide_eq_true c7
                clear c7
                by_cases c8 : (rdOf ByteArray.empty l0 x13_1).toList = (rdOf ByteArray.empty l1 x13_1).toList
                · rw [if_pos c8] at H
                  have c8b0 : ((rdOf ByteArray.empty l0 x13_1).toList == (rdOf ByteArray.empty l1 x13_1).toList) = true := beq_iff_eq.mpr c8
                  have c8b1 : ((rdOf ByteArray.empty l0 x13_1).toList != (rdOf ByteArray.empty l1 x13_1).toList) = false := bne_eq_false_iff_eq.mpr c8
                  clear c8
                  have H' := Aside0.mk H
                  clear H
                  have p163 : 0 ≤ (x13_1 : Int) := of_decide_eq_true (by first | (with_reducible assumption) | assumption)
                  have q163 : x13_1 < (l0.length : Int) := of_decide_eq_true (by first | (with_reducible assumption) | assumption)
                  obtain ⟨ad163, e163, hx163_0⟩ := Kd.at_string HR0.out x13_1 p163 q163
                  cases e163
                  replace p163 := eq_true p163
                  replace q163 := eq_true q163
                  have p164 : 0 ≤ (x13_1 : Int) := of_decide_eq_true (by first | (with_reducible assumption) | assumption)
                  have q164 : x13_1 < (l1.length : Int) := of_decide_eq_true (by first | (with_reducible assumption) | assumption)
                  obtain ⟨ad164, e164, hx164_0⟩ := Kd.at_string HR1.out x13_1 p164 q164
                  cases e164
                  replace p164 := eq_true p164
                  replace q164 := eq_true q164
                  go_wp2
                  repeat (go_quiet (fail); try go_wp2)
                  go_roundg k1
                  case measure => have := HK1.out; omega
                  case rel => exact ⟨(wrap64 (x13_1 + 1)), (by first | rfl | (simp; done) | (simp [*]; done)), H', ⟨by have := HK1.out; omega⟩, by repeat (first | exact Drawn0.refl _ | apply Drawn0.step)⟩
                · rw [if_neg c8] at H
                  have c8b0 : ((rdOf ByteArray.empty l0 x13_1).toList == (rdOf ByteArray.empty l1 x13_1).toList) = false := beq_eq_false_iff_ne.mpr c8
                  have c8b1 : ((rdOf ByteArray.empty l0 x13_1).toList != (rdOf ByteArray.empty l1 x13_1).toList) = true := bne_iff_ne.mpr c8
                  obtain rfl := Option.some.inj H
                  have p163 : 0 ≤ (x13_1 : Int) := of_decide_eq_true (by first | (with_reducible assumption) | assumption)
                  have q163 : x13_1 < (l0.length : Int) := of_decide_eq_true (by first | (with_reducible assumption) | assumption)
                  obtain ⟨ad163, e163, hx163_0⟩ := Kd.at_string HR0.out x13_1 p163 q163
                  cases e163
                  replace p163 := eq_true p163
                  replace q163 := eq_true q163
                  have p164 : 0 ≤ (x13_1 : Int) := of_decide_eq_true (by first | (with_reducible assumption) | assumption)
                  have q164 : x13_1 < (l1.length : Int) := of_decide_eq_true (by first | (with_reducible assumption) | assumption)
                  obtain ⟨ad164, e164, hx164_0⟩ := Kd.at_string HR1.out x13_1 p164 q164
                  cases e164
                  replace p164 := eq_true p164
                  replace q164 := eq_true q164
                  go_wp2
                  repeat (go_quiet (fail); try go_wp2)
                  go_ret
                  exact ⟨by first | rfl | (simp; done) | (simp [*]; done), by repeat (first | exact Drawn0.refl _ | apply Drawn0.step)⟩
              · rw [if_neg c7] at H
                exact absurd H (by simp)
            · rw [if_neg c6] at H
              exact absurd H (by simp)
          · rw [if_neg c5] at H
            exact absurd H (by simp)
        · rw [if_neg c4] at H
          have c4b0 : decide (x13_1 < (l0.length : Int)) = false := decide_eq_false c4
          clear c4
          obtain rfl := Option.some.inj H
          go_wp2
          repeat (go_quiet (fail); try go_wp2)
          go_ret
          exact ⟨by first | rfl | (simp; done) | (simp [*]; done), by repeat (first | exact Drawn0.refl _ | apply Drawn0.step)⟩
  · rw [if_neg c3] at H
    have c3b0 : ((l0.length : Int) == (l1.length : Int)) = false := beq_eq_false_iff_ne.mpr c3
    have c3b1 : ((l0.length : Int) != (l1.length : Int)) = true := bne_iff_ne.mpr c3
    have c3b2 : (l0.length == l1.length) = false := by first | simpa using c3 | (simp at c3 ⊢; omega)
    obtain rfl := Option.some.inj H
    go_enter Tryz.func28, Tryz.ntmps28
    go_wp2
    repeat (go_quiet (fail); try go_wp2)
    go_ret
    exact ⟨by first | rfl | (simp; done) | (simp [*]; done), by repeat (first | exact Drawn0.refl _ | apply Drawn0.step)⟩

/-! ### slices_Equal_int64_int64: function 29 -/
def slices_Equal_int64_int64.l0 : Nat → List Int → List Int → Int → Int → Option (Bool)
  | 0, _, _, _, _ => none
  | k + 1, x0, x1, x12, x13 => if x13 < x12 then (if 0 ≤ x13 then (if x13 < (x0.length : Int) then (if x13 < (x1.length : Int) then (if (rd x0 x13) = (rd x1 x13) then (slices_Equal_int64_int64.l0 k x0 x1 x12 (wrap64 (x13 + 1))) else (some false)) else (none)) else (none)) else (none)) else (some true)
def slices_Equal_int64_int64.f (k : Nat) (l0 : List Int) (l1 : List Int) : Option (Bool) := if (l0.length : Int) = (l1.length : Int) then (slices_Equal_int64_int64.l0 k l0 l1 (l0.length : Int) 0) else (some false)
theorem slices_Equal_int64_int64.mono_l : ∀ k, (∀ y0 y1 y2 y3, LeO (slices_Equal_int64_int64.l0 k y0 y1 y2 y3) (slices_Equal_int64_int64.l0 (k + 1) y0 y1 y2 y3))
  | 0 => fun _ _ _ _ r h => by simp [slices_Equal_int64_int64.l0] at h
  | k + 1 => by
    have ih0 := slices_Equal_int64_int64.mono_l k
    · intro y0 y1 y2 y3
      unfold slices_Equal_int64_int64.l0
      repeat' first
      | (with_reducible exact ih0 _ _ _ _)
      | (with_reducible exact LeO.refl _)
      | (with_reducible exact LeO.none _)
      | (with_reducible refine LeO.ite ?_ ?_)
      | (with_reducible refine LeO.bind ?_ (fun _ => ?_))
      | exact ih0 _ _ _ _
      | exact LeO.none _
      | refine LeO.ite ?_ ?_
      | refine LeO.bind ?_ (fun _ => ?_)
theorem slices_Equal_int64_int64.mono : ∀ a0 a1 k, LeO (slices_Equal_int64_int64.f k a0 a1) (slices_Equal_int64_int64.f (k + 1) a0 a1) := by
  intro a0 a1 k
  have ih0 := slices_Equal_int64_int64.mono_l k
  unfold slices_Equal_int64_int64.f
  repeat' first
      | (with_reducible exact ih0 _ _ _ _)
      | (with_reducible exact LeO.refl _)
      | (with_reducible exact LeO.none _)
      | (with_reducible refine LeO.ite ?_ ?_)
      | (with_reducible refine LeO.bind ?_ (fun _ => ?_))
      | exact ih0 _ _ _ _
      | exact LeO.none _
      | refine LeO.ite ?_ ?_
      | refine LeO.bind ?_ (fun _ => ?_)
set_option maxHeartbeats 8000000 in
set_option maxRecDepth 100000 in
theorem slices_Equal_int64_int64.calls (k : Nat) (A0 : Option Addr) (c0 : Nat) (l0 : List Int) (A1 : Option Addr) (c1 : Nat) (l1 : List Int) (r : Bool) (w : World) (hr0 : Kd.C (Kd.int .i64) w A0 l0.length l0) (hc0 : l0.length ≤ c0) (hr1 : Kd.C (Kd.int .i64) w A1 l1.length l1) (hc1 : l1.length ≤ c1) (h : slices_Equal_int64_int64.f k l0 l1 = some r) :
    Calls Tryz.prog 29 #[.slice A0 l0.length c0, .slice A1 l1.length c1] w fun e w' => e = .returned (.bool r) ∧ Drawn0 w w' := by
  have HR0 := Aside0.mk hr0
  have HC0 := Aside0.mk hc0
  clear hr0 hc0
  have HR1 := Aside0.mk hr1
  have HC1 := Aside0.mk hc1
  clear hr1 hc1
  have H : (if (l0.length : Int) = (l1.length : Int) then (slices_Equal_int64_int64.l0 k l0 l1 (l0.length : Int) 0) else (some false)) = some r := h
  clear h
  by_cases c3 : (l0.length : Int) = (l1.length : Int)
  · rw [if_pos c3] at H
    have c3b0 : ((l0.length : Int) == (l1.length : Int)) = true := beq_iff_eq.mpr c3
    have c3b1 : ((l0.length : Int) != (l1.length : Int)) = false := bne_eq_false_iff_eq.mpr c3
    have c3b2 : (l0.length == l1.length) = true := by first | simpa using c3 | (simp at c3 ⊢; omega)
    clear c3
    have H' := Aside0.mk H
    clear H
    go_enter Tryz.func29, Tryz.ntmps29
    go_wp2
    repeat (go_quiet (fail); try go_wp2)
    go_loopg [13] k (fun kq v13 w' => ∃ (x13_1 : Int), v13 = .int .i64 x13_1 ∧ Aside0 (slices_Equal_int64_int64.l0 kq l0 l1 (l0.length : Int) x13_1 = some r) ∧ Aside0 (kq ≤ k) ∧ Drawn0 w w')
    case atStart => exact ⟨(0), (by first | rfl | (simp; done) | (simp [*]; done)), H', ⟨Nat.le_refl _⟩, by repeat (first | exact Drawn0.refl _ | apply Drawn0.step)⟩
    case round =>
      clear H'
      try clear c1
      try clear c2
      try clear p2
      try clear c3
      try clear c3b0
      try clear c3b1
      try clear c3b2
      obtain ⟨x13_1, rfl, HA, HK1, ⟨m1, rfl⟩⟩ := hrel
      cases gk with
      | zero => exact absurd HA.out (by simp [slices_Equal_int64_int64.l0])
      | succ k1 =>
        have H := HA.out
        clear HA
        simp only [slices_Equal_int64_int64.l0] at H
        by_cases c4 : x13_1 < (l0.length : Int)
        · rw [if_pos c4] at H
          have c4b0 : decide (x13_1 < (l0.length : Int)) = true := decide_eq_true c4
          clear c4
          by_cases c5 : 0 ≤ x13_1
          · rw [if_pos c5] at H
            have c5b0 : decide (0 ≤ x13_1) = true := decide_eq_true c5
            clear c5
            by_cases c6 : x13_1 < (l0.length : Int)
            · rw [if_pos c6] at H
              have c6b0 : decide (x13_1 < (l0.length : Int)) = true := decide_eq_true c6
              clear c6
              by_cases c7 : x13_1 < (l1.length : Int)
              · rw [if_pos c7] at H
                have c7b0 : decide (x13_1 < (l1.length : Int)) = true := decide_eq_true c7
                clear c7
                by_cases c8 : (rd l0 x13_1) = (rd l1 x13_1)
                · rw [if_pos c8] at H
                  have c8b0 : ((rd l0 x13_1) == (rd l1 x13_1)) = true := beq_iff_eq.mpr c8
                  have c8b1 : ((rd l0 x13_1) != (rd l1 x13_1)) = false := bne_eq_false_iff_eq.mpr c8
                  clear c8
                  have H' := Aside0.mk H
                  clear H
                  have p165 : 0 ≤ (x13_1 : Int) := of_decide_eq_true (by first | (with_reducible assumption) | assumption)
                  have q165 : x13_1 < (l0.length : Int) := of_decide_eq_true (by first | (with_reducible assumption) | assumption)
                  obtain ⟨ad165, e165, hx165_0⟩ := Kd.at_int HR0.out x13_1 p165 q165
                  cases e165
                  replace p165 := eq_true p165
                  replace q165 := eq_true q165
                  have p166 : 0 ≤ (x13_1 : Int) := of_decide_eq_true (by first | (with_reducible assumption) | assumption)
                  have q166 : x13_1 < (l1.length : Int) := of_decide_eq_true (by first | (with_reducible assumption) | assumption)
                  obtain ⟨ad166, e166, hx166_0⟩ := Kd.at_int HR1.out x13_1 p166 q166
                  cases e166
                  replace p166 := eq_true p166
                  replace q166 := eq_true q166
                  go_wp2
                  repeat (go_quiet (fail); try go_wp2)
                  go_roundg k1
                  case measure => have := HK1.out; omega
                  case rel => exact ⟨(wrap64 (x13_1 + 1)), (by first | rfl | (simp; done) | (simp [*]; done)), H', ⟨by have := HK1.out; omega⟩, by repeat (first | exact Drawn0.refl _ | apply Drawn0.step)⟩
                · rw [if_neg c8] at H
                  have c8b0 : ((rd l0 x13_1) == (rd l1 x13_1)) = false := beq_eq_false_iff_ne.mpr c8
                  have c8b1 : ((rd l0 x13_1) != (rd l1 x13_1)) = true := bne_iff_ne.mpr c8
                  obtain rfl := Option.some.inj H
                  have p165 : 0 ≤ (x13_1 : Int) := of_decide_eq_true (by first | (with_reducible assumption) | assumption)
                  have q165 : x13_1 < (l0.length : Int) := of_decide_eq_true (by first | (with_reducible assumption) | assumption)
                  obtain ⟨ad165, e165, hx165_0⟩ := Kd.at_int HR0.out x13_1 p165 q165
                  cases e165
                  replace p165 := eq_true p165
                  replace q165 := eq_true q165
                  have p166 : 0 ≤ (x13_1 : Int) := of_decide_eq_true (by first | (with_reducible assumption) | assumption)
                  have q166 : x13_1 < (l1.length : Int) := of_decide_eq_true (by first | (with_reducible assumption) | assumption)
                  obtain ⟨ad166, e166, hx166_0⟩ := Kd.at_int HR1.out x13_1 p166 q166
                  cases e166
                  replace p166 := eq_true p166
                  replace q166 := eq_true q166
                  go_wp2
                  repeat (go_quiet (fail); try go_wp2)
                  go_ret
                  exact ⟨by first | rfl | (simp; done) | (simp [*]; done), by repeat (first | exact Drawn0.refl _ | apply Drawn0.step)⟩
              · rw [if_neg c7] at H
                exact absurd H (by simp)
            · rw [if_neg c6] at H
              exact absurd H (by simp)
          · rw [if_neg c5] at H
            exact absurd H (by simp)
        · rw [if_neg c4] at H
          have c4b0 : decide (x13_1 < (l0.length : Int)) = false := decide_eq_false c4
          clear c4
          obtain rfl := Option.some.inj H
          go_wp2
          repeat (go_quiet (fail); try go_wp2)
          go_ret
          exact ⟨by first | rfl | (simp; done) | (simp [*]; done), by repeat (first | exact Drawn0.refl _ | apply Drawn0.step)⟩
  · rw [if_neg c3] at H
    have c3b0 : ((l0.length : Int) == (l1.length : Int)) = false := beq_eq_false_iff_ne.mpr c3
    have c3b1 : ((l0.length : Int) != (l1.length : Int)) = true := bne_iff_ne.mpr c3
    have c3b2 : (l0.length == l1.length) = false := by first | simpa using c3 | (simp at c3 ⊢; omega)
    obtain rfl := Option.some.inj H
    go_enter Tryz.func29, Tryz.ntmps29
    go_wp2
    repeat (go_quiet (fail); try go_wp2)
    go_ret
    exact ⟨by first | rfl | (simp; done) | (simp [*]; done), by repeat (first | exact Drawn0.refl _ | apply Drawn0.step)⟩

/-! ### slices_Equal_byte_byte: function 30 -/
def slices_Equal_byte_byte.l0 : Nat → List Int → List Int → Int → Int → Option (Bool)
  | 0, _, _, _, _ => none
  | k + 1, x0, x1, x12, x13 => if x13 < x12 then (if 0 ≤ x13 then (if x13 < (x0.length : Int) then (if x13 < (x1.length : Int) then (if (rd x0 x13) = (rd x1 x13) then (slices_Equal_byte_byte.l0 k x0 x1 x12 (wrap64 (x13 + 1))) else (some false)) else (none)) else (none)) else (none)) else (some true)
def slices_Equal_byte_byte.f (k : Nat) (l0 : List Int) (l1 : List Int) : Option (Bool) := if (l0.length : Int) = (l1.length : Int) then (slices_Equal_byte_byte.l0 k l0 l1 (l0.length : Int) 0) else (some false)
theorem slices_Equal_byte_byte.mono_l : ∀ k, (∀ y0 y1 y2 y3, LeO (slices_Equal_byte_byte.l0 k y0 y1 y2 y3) (slices_Equal_byte_byte.l0 (k + 1) y0 y1 y2 y3))
  | 0 => fun _ _ _ _ r h => by simp [slices_Equal_byte_byte.l0] at h
  | k + 1 => by
    have ih0 := slices_Equal_byte_byte.mono_l k
    · intro y0 y1 y2 y3
      unfold slices_Equal_byte_byte.l0
      repeat' first
      | (with_reducible exact ih0 _ _ _ _)
      | (with_reducible exact LeO.refl _)
      | (with_reducible exact LeO.none _)
      | (with_reducible refine LeO.ite ?_ ?_)
      | (with_reducible refine LeO.bind ?_ (fun _ => ?_))
      | exact ih0 _ _ _ _
      | exact LeO.none _
      | refine LeO.ite ?_ ?_
      | refine LeO.bind ?_ (fun _ => ?_)
theorem slices_Equal_byte_byte.mono : ∀ a0 a1 k, LeO (slices_Equal_byte_byte.f k a0 a1) (slices_Equal_byte_byte.f (k + 1) a0 a1) := by
  intro a0 a1 k
  have ih0 := slices_Equal_byte_byte.mono_l k
  unfold slices_Equal_byte_byte.f
  repeat' first
      | (with_reducible exact ih0 _ _ _ _)
      | (with_reducible exact LeO.refl _)
      | (with_reducible exact LeO.none _)
      | (with_reducible refine LeO.ite ?_ ?_)
      | (with_reducible refine LeO.bind ?_ (fun _ => ?_))
      | exact ih0 _ _ _ _
      | exact LeO.none _
      | refine LeO.ite ?_ ?_
      | refine LeO.bind ?_ (fun _ => ?_)
set_option maxHeartbeats 8000000 in
set_option maxRecDepth 100000 in
theorem slices_Equal_byte_byte.calls (k : Nat) (A0 : Option Addr) (c0 : Nat) (l0 : List Int) (A1 : Option Addr) (c1 : Nat) (l1 : List Int) (r : Bool) (w : World) (hr0 : Kd.C (Kd.int .u8) w A0 l0.length l0) (hc0 : l0.length ≤ c0) (hr1 : Kd.C (Kd.int .u8) w A1 l1.length l1) (hc1 : l1.length ≤ c1) (h : slices_Equal_byte_byte.f k l0 l1 = some r) :
    Calls Tryz.prog 30 #[.slice A0 l0.length c0, .slice A1 l1.length c1] w fun e w' => e = .returned (.bool r) ∧ Drawn0 w w' := by
  have HR0 := Aside0.mk hr0
  have HC0 := Aside0.mk hc0
  clear hr0 hc0
  have HR1 := Aside0.mk hr1
  have HC1 := Aside0.mk hc1
  clear hr1 hc1
  have H : (if (l0.length : Int) = (l1.length : Int) then (slices_Equal_byte_byte.l0 k l0 l1 (l0.length : Int) 0) else (some false)) = some r := h
  clear h
  by_cases c3 : (l0.length : Int) = (l1.length : Int)
  · rw [if_pos c3] at H
    have c3b0 : ((l0.length : Int) == (l1.length : Int)) = true := beq_iff_eq.mpr c3
    have c3b1 : ((l0.length : Int) != (l1.length : Int)) = false := bne_eq_false_iff_eq.mpr c3
    have c3b2 : (l0.length == l1.length) = true := by first | simpa using c3 | (simp at c3 ⊢; omega)
    clear c3
    have H' := Aside0.mk H
    clear H
    go_enter Tryz.func30, Tryz.ntmps30
    go_wp2
    repeat (go_quiet (fail); try go_wp2)
    go_loopg [13] k (fun kq v13 w' => ∃ (x13_1 : Int), v13 = .int .i64 x13_1 ∧ Aside0 (slices_Equal_byte_byte.l0 kq l0 l1 (l0.length : Int) x13_1 = some r) ∧ Aside0 (kq ≤ k) ∧ Drawn0 w w')
    case atStart => exact ⟨(0), (by first | rfl | (simp; done) | (simp [*]; done)), H', ⟨Nat.le_refl _⟩, by repeat (first | exact Drawn0.refl _ | apply Drawn0.step)⟩
    case round =>
      clear H'
      try clear c1
      try clear p2
      try clear c3
      try clear c3b0
      try clear c3b1
      try clear c3b2
      obtain ⟨x13_1, rfl, HA, HK1, ⟨m1, rfl⟩⟩ := hrel
      cases gk with
      | zero => exact absurd HA.out (by simp [slices_Equal_byte_byte.l0])
      | succ k1 =>
        have H := HA.out
        clear HA
        simp only [slices_Equal_byte_byte.l0] at H
        by_cases c4 : x13_1 < (l0.length : Int)
        · rw [if_pos c4] at H
          have c4b0 : decide (x13_1 < (l0.length : Int)) = true := decide_eq_true c4
          clear c4
          by_cases c5 : 0 ≤ x13_1
          · rw [if_pos c5] at H
            have c5b0 : decide (0 ≤ x13_1) = true := decide_eq_true c5
            clear c5
            by_cases c6 : x13_1 < (l0.length : Int)
            · rw [if_pos c6] at H
              have c6b0 : decide (x13_1 < (l0.length : Int)) = true := decide_eq_true c6
              clear c6
              by_cases c7 : x13_1 < (l1.length : Int)
              · rw [if_pos c7] at H
                have c7b0 : decide (x13_1 < (l1.length : Int)) = true := decide_eq_true c7
                clear c7
                by_cases c8 : (rd l0 x13_1) = (rd l1 x13_1)
                · rw [if_pos c8] at H
                  have c8b0 : ((rd l0 x13_1) == (rd l1 x13_1)) = true := beq_iff_eq.mpr c8
                  have c8b1 : ((rd l0 x13_1) != (rd l1 x13_1)) = false := bne_eq_false_iff_eq.mpr c8
                  clear c8
                  have H' := Aside0.mk H
                  clear H
                  have p167 : 0 ≤ (x13_1 : Int) := of_decide_eq_true (by first | (with_reducible assumption) | assumption)
                  have q167 : x13_1 < (l0.length : Int) := of_decide_eq_true (by first | (with_reducible assumption) | assumption)
                  obtain ⟨ad167, e167, hx167_0⟩ := Kd.at_int HR0.out x13_1 p167 q167
                  cases e167
                  replace p167 := eq_true p167
                  replace q167 := eq_true q167
                  have p168 : 0 ≤ (x13_1 : Int) := of_decide_eq_true (by first | (with_reducible assumption) | assumption)
                  have q168 : x13_1 < (l1.length : Int) := of_decide_eq_true (by first | (with_reducible assumption) | assumption)
                  obtain ⟨ad168, e168, hx168_0⟩ := Kd.at_int HR1.out x13_1 p168 q168
                  cases e168
                  replace p168 := eq_true p168
                  replace q168 := eq_true q168
                  go_wp2
                  repeat (go_quiet (fail); try go_wp2)
                  go_roundg k1
                  case measure => have := HK1.out; omega
                  case rel => exact ⟨(wrap64 (x13_1 + 1)), (by first | rfl | (simp; done) | (simp [*]; done)), H', ⟨by have := HK1.out; omega⟩, by repeat (first | exact Drawn0.refl _ | apply Drawn0.step)⟩
                · rw [if_neg c8] at H
                  have c8b0 : ((rd l0 x13_1) == (rd l1 x13_1)) = false := beq_eq_false_iff_ne.mpr c8
                  have c8b1 : ((rd l0 x13_1) != (rd l1 x13_1)) = true := bne_iff_ne.mpr c8
                  obtain rfl := Option.some.inj H
                  have p167 : 0 ≤ (x13_1 : Int) := of_decide_eq_true (by first | (with_reducible assumption) | assumption)
                  have q167 : x13_1 < (l0.length : Int) := of_decide_eq_true (by first | (with_reducible assumption) | assumption)
                  obtain ⟨ad167, e167, hx167_0⟩ := Kd.at_int HR0.out x13_1 p167 q167
                  cases e167
                  replace p167 := eq_true p167
                  replace q167 := eq_true q167
                  have p168 : 0 ≤ (x13_1 : Int) := of_decide_eq_true (by first | (with_reducible assumption) | assumption)
                  have q168 : x13_1 < (l1.length : Int) := of_decide_eq_true (by first | (with_reducible assumption) | assumption)
                  obtain ⟨ad168, e168, hx168_0⟩ := Kd.at_int HR1.out x13_1 p168 q168
                  cases e168
                  replace p168 := eq_true p168
                  replace q168 := eq_true q168
                  go_wp2
                  repeat (go_quiet (fail); try go_wp2)
                  go_ret
                  exact ⟨by first | rfl | (simp; done) | (simp [*]; done), by repeat (first | exact Drawn0.refl _ | apply Drawn0.step)⟩
              · rw [if_neg c7] at H
                exact absurd H (by simp)
            · rw [if_neg c6] at H
              exact absurd H (by simp)
          · rw [if_neg c5] at H
            exact absurd H (by simp)
        · rw [if_neg c4] at H
          have c4b0 : decide (x13_1 < (l0.length : Int)) = false := decide_eq_false c4
          clear c4
          obtain rfl := Option.some.inj H
          go_wp2
          repeat (go_quiet (fail); try go_wp2)
          go_ret
          exact ⟨by first | rfl | (simp; done) | (simp [*]; done), by repeat (first | exact Drawn0.refl _ | apply Drawn0.step)⟩
  · rw [if_neg c3] at H
    have c3b0 : ((l0.length : Int) == (l1.length : Int)) = false := beq_eq_false_iff_ne.mpr c3
    have c3b1 : ((l0.length : Int) != (l1.length : Int)) = true := bne_iff_ne.mpr c3
    have c3b2 : (l0.length == l1.length) = false := by first | simpa using c3 | (simp at c3 ⊢; omega)
    obtain rfl := Option.some.inj H
    go_enter Tryz.func30, Tryz.ntmps30
    go_wp2
    repeat (go_quiet (fail); try go_wp2)
    go_ret
    exact ⟨by first | rfl | (simp; done) | (simp [*]; done), by repeat (first | exact Drawn0.refl _ | apply Drawn0.step)⟩










end Go.Proofs.YtfiacgkhkonilaaGreatDoor.PText

/- The document's way to read a line's words, as a plain definition; it is the program's. -/
namespace Go.Proofs.YtfiacgkhkonilaaGreatDoor
open Go

def namedRef (v : B) : Bool := decide (v = vSet) || decide (v = vCount)
def bytesRef (v : B) : Bool := decide (v = vRaw) || decide (v = vConfig)
def countRef (v : B) (n : Nat) : Bool :=
  if v = vSet ∨ v = vTrack then decide (n = 1)
  else if v = vModel then decide (n = 3)
  else if v = vRow then decide (1 ≤ n) && decide (n ≤ 4)
  else if v = vStart ∨ v = vTracks ∨ v = vCounts ∨ v = vTime ∨ v = vCount then decide (n = 0)
  else if v = vScan then decide (3 ≤ n) && (decide (n ≤ 129) && decide (n % 2 = 1))
  else false
/-- What stands behind the names. -/
def restRef (v : B) (ws rest : List B) : Option Cmd :=
  if bytesRef v = true then
    match rest with
    | [x] => if x.length % 2 = 0 then (hexOf x).map fun b => ⟨0, v, ws, [], b⟩ else none
    | _ => none
  else match numsOf rest with
    | none => none
    | some ns => if countRef v rest.length = true then some ⟨0, v, ws, ns, []⟩ else none
def readRef : List B → Option Cmd
  | [] => none
  | v :: rest =>
    if namedRef v = true then
      match rest with
      | [] => none
      | x :: r => if isName x = true then restRef v [x] r else none
    else restRef v [] rest

theorem hexOf_even : ∀ (m : Nat) (l : B), l.length = 2 * m + 1 → hexOf l = none
  | 0, l, h => by
    match l, h with
    | [a], _ => rfl
  | m + 1, l, h => by
    match l, h with
    | a :: b :: r, h =>
      unfold hexOf
      split
      · rfl
      · rw [hexOf_even m r (by simp at h; omega)]; rfl
theorem bytes_ref (x : B) (hx : x ≠ []) : (if x.length % 2 = 0 then hexOf x else none) = bytesWord x := by
  unfold bytesWord
  rw [if_neg hx]
  split
  · rfl
  · rw [hexOf_even (x.length / 2) x (by omega)]

/-- A verb with its need. -/
theorem read_need (v : B) (rest : List B) (n : Need) (hn : needOf v = some n) : readCmd (v :: rest) = if rest.length < n.words then none else if (rest.take n.words).all isName = false then none
    else if n.bytes then (match rest.drop n.words with | [x] => (bytesWord x).map fun b => ⟨0, v, rest.take n.words, [], b⟩ | _ => none)
    else if n.right (rest.drop n.words).length then (numsOf (rest.drop n.words)).map fun l => ⟨0, v, rest.take n.words, l, []⟩ else none := by
  simp only [readCmd, hn]
  rfl
theorem readRef_cons (v : B) (rest : List B) : readRef (v :: rest) = if namedRef v = true then (match rest with | [] => none | x :: r => if isName x = true then restRef v [x] r else none) else restRef v [] rest := rfl
def onlyBytes (v : B) (ws : List B) : List B → Option Cmd
  | [x] => (bytesWord x).map fun b => ⟨0, v, ws, [], b⟩
  | _ => none
theorem rest_bytes (v : B) (ws rest : List B) (hb : bytesRef v = true) (hne : ∀ x ∈ rest, x ≠ []) : restRef v ws rest = onlyBytes v ws rest := by
  unfold restRef
  rw [if_pos hb]
  match rest, hne with
  | [], _ => rfl
  | [x], h =>
    unfold onlyBytes
    simp only
    rw [← bytes_ref x (h x (by simp))]
    split <;> rfl
  | _ :: _ :: _, _ => rfl
theorem rest_nums (v : B) (ws rest : List B) (hb : bytesRef v = false) : restRef v ws rest = if countRef v rest.length = true then (numsOf rest).map fun l => ⟨0, v, ws, l, []⟩ else none := by
  unfold restRef
  rw [if_neg (by rw [hb]; simp)]
  cases numsOf rest with
  | none => simp
  | some ns => rfl
theorem ref_plain (v : B) (rest : List B) (n : Need) (hn : needOf v = some n) (h0 : n.words = 0) (hna : namedRef v = false) (hb : bytesRef v = false) (hnb : n.bytes = false) (hc : ∀ k, countRef v k = n.right k) :
    readRef (v :: rest) = readCmd (v :: rest) := by
  rw [read_need v rest n hn, h0, hnb]
  rw [readRef_cons]
  rw [if_neg (show ¬ namedRef v = true by rw [hna]; simp), rest_nums _ _ _ hb, hc, if_neg (show ¬ rest.length < 0 by omega), if_neg (show ¬ (rest.take 0).all isName = false by simp)]
  simp only [List.drop_zero, List.take_zero]
  rfl
theorem ref_named (v : B) (rest : List B) (n : Need) (hn : needOf v = some n) (h0 : n.words = 1) (hna : namedRef v = true) (hb : bytesRef v = false) (hnb : n.bytes = false) (hc : ∀ k, countRef v k = n.right k) :
    readRef (v :: rest) = readCmd (v :: rest) := by
  rw [read_need v rest n hn, h0, hnb]
  rw [readRef_cons]
  rw [if_pos hna]
  cases rest with
  | nil => simp
  | cons x r =>
    show (if isName x = true then restRef v [x] r else none) = _
    rw [rest_nums _ _ _ hb, hc]
    cases hx : isName x <;> simp [hx]
theorem ref_bytes (v : B) (rest : List B) (n : Need) (hn : needOf v = some n) (h0 : n.words = 0) (hna : namedRef v = false) (hb : bytesRef v = true) (hnb : n.bytes = true) (hne : ∀ x ∈ rest, x ≠ []) :
    readRef (v :: rest) = readCmd (v :: rest) := by
  rw [read_need v rest n hn, h0, hnb]
  rw [readRef_cons]
  rw [if_neg (show ¬ namedRef v = true by rw [hna]; simp), rest_bytes _ _ _ hb hne, if_neg (show ¬ rest.length < 0 by omega), if_neg (show ¬ (rest.take 0).all isName = false by simp)]
  simp only [List.drop_zero, List.take_zero, if_true]
  rfl
theorem ref_other (v : B) (rest : List B) (h : needOf v = none) : readRef (v :: rest) = readCmd (v :: rest) := by
  have e : readCmd (v :: rest) = none := by simp only [readCmd, h]
  have hv : v ≠ vSet ∧ v ≠ vModel ∧ v ≠ vRow ∧ (v ≠ vStart ∧ v ≠ vTracks ∧ v ≠ vCounts ∧ v ≠ vTime) ∧ v ≠ vScan ∧ (v ≠ vRaw ∧ v ≠ vConfig) ∧ v ≠ vTrack ∧ v ≠ vCount := by
    unfold needOf at h
    refine ⟨?_, ?_, ?_, ⟨?_, ?_, ?_, ?_⟩, ?_, ⟨?_, ?_⟩, ?_, ?_⟩ <;> (rintro rfl; revert h; decide)
  obtain ⟨a1, a2, a3, ⟨a4, a5, a6, a7⟩, a8, ⟨a9, a10⟩, a11, a12⟩ := hv
  have hb : bytesRef v = false := by simp [bytesRef, a9, a10]
  have hc : ∀ k, countRef v k = false := fun k => by simp [countRef, a1, a2, a3, a4, a5, a6, a7, a8, a11, a12]
  have hna : namedRef v = false := by simp [namedRef, a1, a12]
  rw [e]
  rw [readRef_cons]
  rw [if_neg (by rw [hna]; simp), rest_nums _ _ _ hb, hc, if_neg (by simp)]
theorem dec_congr {p q : Prop} [Decidable p] [Decidable q] (h : p ↔ q) : decide p = decide q := by
  by_cases hp : p
  · rw [decide_eq_true hp, decide_eq_true (h.1 hp)]
  · rw [decide_eq_false hp, decide_eq_false (fun hq => hp (h.2 hq))]
theorem right_one (k m : Nat) : (decide (m ≤ k) && (decide (k ≤ m) && (true || decide (k % 2 = 1)))) = decide (k = m) := by
  by_cases h : k = m
  · subst h; simp
  · rw [decide_eq_false h]
    by_cases h2 : m ≤ k
    · rw [decide_eq_false (show ¬ k ≤ m by omega)]; simp
    · rw [decide_eq_false h2]; simp
theorem readRef_eq (v : B) (rest : List B) (hne : ∀ x ∈ rest, x ≠ []) : readRef (v :: rest) = readCmd (v :: rest) := by
  by_cases hv1 : v = vSet
  · subst hv1; exact ref_named _ _ ⟨1, false, 1, 1, true⟩ rfl rfl (by decide) (by decide) rfl (fun k => (right_one k 1).symm)
  by_cases hv2 : v = vModel
  · subst hv2; exact ref_plain _ _ ⟨0, false, 3, 3, true⟩ rfl rfl (by decide) (by decide) rfl (fun k => (right_one k 3).symm)
  by_cases hv3 : v = vRow
  · subst hv3; exact ref_plain _ _ ⟨0, false, 1, 4, true⟩ rfl rfl (by decide) (by decide) rfl (fun k => by simp only [Need.right, Bool.true_or, Bool.and_true]; rfl)
  by_cases hv4 : v = vStart
  · subst hv4; exact ref_plain _ _ ⟨0, false, 0, 0, true⟩ rfl rfl (by decide) (by decide) rfl (fun k => (right_one k 0).symm)
  by_cases hv5 : v = vTracks
  · subst hv5; exact ref_plain _ _ ⟨0, false, 0, 0, true⟩ rfl rfl (by decide) (by decide) rfl (fun k => (right_one k 0).symm)
  by_cases hv6 : v = vCounts
  · subst hv6; exact ref_plain _ _ ⟨0, false, 0, 0, true⟩ rfl rfl (by decide) (by decide) rfl (fun k => (right_one k 0).symm)
  by_cases hv7 : v = vTime
  · subst hv7; exact ref_plain _ _ ⟨0, false, 0, 0, true⟩ rfl rfl (by decide) (by decide) rfl (fun k => (right_one k 0).symm)
  by_cases hv8 : v = vScan
  · subst hv8; exact ref_plain _ _ ⟨0, false, 3, 129, false⟩ rfl rfl (by decide) (by decide) rfl (fun k => by simp only [Need.right, Bool.false_or]; rfl)
  by_cases hv9 : v = vRaw
  · subst hv9; exact ref_bytes _ _ ⟨0, true, 0, 0, true⟩ rfl rfl (by decide) (by decide) rfl hne
  by_cases hv10 : v = vConfig
  · subst hv10; exact ref_bytes _ _ ⟨0, true, 0, 0, true⟩ rfl rfl (by decide) (by decide) rfl hne
  by_cases hv11 : v = vTrack
  · subst hv11; exact ref_plain _ _ ⟨0, false, 1, 1, true⟩ rfl rfl (by decide) (by decide) rfl (fun k => (right_one k 1).symm)
  by_cases hv12 : v = vCount
  · subst hv12; exact ref_named _ _ ⟨1, false, 0, 0, true⟩ rfl rfl (by decide) (by decide) rfl (fun k => (right_one k 0).symm)
  · exact ref_other v rest (by unfold needOf; simp [hv1, hv2, hv3, hv4, hv5, hv6, hv7, hv8, hv9, hv10, hv11, hv12])
end Go.Proofs.YtfiacgkhkonilaaGreatDoor

/- A region that draws its order, within a round of a range over a function: opened, one goal for each operation that may come next; no program in sight. -/
namespace Go.Proofs.YtfiacgkhkonilaaGreatDoor
open Go Go.RowKit
variable {F : Fence} {n : Nat} {P : Program} {ops : Array Oper} {md : Region.Mode} {Q : Exit → Act → World → Prop} {a : Act} {w : World}

theorem wpAnyIn_branch {fuel : Nat} {listed : Array Bool} (rs : List Nat) (hr : Region.ready md ops listed = rs) (hne : rs.isEmpty = false)
    (h : ∀ i ∈ rs, wpOpIn F n P ops Q i (wpAnyIn F n P md ops Q fuel (listed.setIfInBounds i true)) a w) : wpAnyIn F n P md ops Q (fuel + 1) listed a w := by
  refine ⟨fun h0 => ?_, fun i hi => h i (hr ▸ hi)⟩
  rw [hr] at h0; subst h0; cases hne
theorem wpAnyIn_end {fuel : Nat} {listed : Array Bool} (hr : Region.ready md ops listed = []) (h : Q .normal a w) : wpAnyIn F n P md ops Q fuel listed a w := by
  cases fuel with
  | zero => exact ⟨hr, h⟩
  | succ k => exact ⟨fun _ => h, fun i hi => by rw [hr] at hi; cases hi⟩
theorem wpOpIn_of {i : Nat} {o : Oper} {K : Act → World → Prop} (hi : ops[i]? = some o) (hd : noDefer o = true) (hw : Region.wanted o (yielded ops a.tmps) = true)
    (hab : ∀ f, o.about P w a.eval = some f → F.fn f) (h : ∀ K' : Act → World → Prop, Hid (∀ a w, K a w → K' a w) → o.uponIn F n P a K' Q ((execOp a.eval o).run P w)) : wpOpIn F n P ops Q i K a w := by
  have h := h K (fun _ _ h => h)
  unfold wpOpIn
  simp only [hi, hw, if_true]
  unfold Oper.wpIn
  refine ⟨hab, ?_⟩
  rw [Oper.semAt_plain F _ _ (noDefer_ne hd)]
  exact h
end Go.Proofs.YtfiacgkhkonilaaGreatDoor

/- The way out of Parse at a line that is wrong: a region that draws its order, within a round. -/
namespace Go.Proofs.YtfiacgkhkonilaaGreatDoor
open Go Go.RowKit Go.Shelf Go.Proofs.YtfiacgkhkonilaaGreatDoorW.PrintWords Go.Proofs.YtfiacgkhkonilaaGreatDoorW.PrintLast Go.Proofs.YtfiacgkhkonilaaGreatDoorW.PrintMore

def ops13 : Array Oper := #[{ dst := some 38, op := Op.load 3 (Operand.tmp 6), type := 3, pos := "script.go:165", after := #[], guard := none }, { dst := some 39, op := Op.makeInterface 47 (Operand.const (Value.int IntKind.i64 337)), type := 25, pos := "script.go:165", after := #[{ on := 3, ground := Ground.gcOnly Departure.lateStores }], guard := none }, { dst := none, op := Op.store 23 (Operand.tmp 2) (Operand.const (Value.slice none 0 0)), type := 0, pos := "script.go:165", after := #[{ on := 0, ground := Ground.textOnly Departure.inlinedCapture }, { on := 1, ground := Ground.textOnly Departure.lateStores }], guard := none }, { dst := none, op := Op.store 3 (Operand.tmp 3) (Operand.tmp 38), type := 0, pos := "script.go:165", after := #[{ on := 0, ground := Ground.data }, { on := 2, ground := Ground.chain }, { on := 0, ground := Ground.phase }, { on := 1, ground := Ground.textOnly Departure.lateStores }, { on := 2, ground := Ground.phase }], guard := none }, { dst := none, op := Op.store 25 (Operand.tmp 4) (Operand.tmp 39), type := 0, pos := "script.go:165", after := #[{ on := 1, ground := Ground.data }, { on := 3, ground := Ground.chain }, { on := 0, ground := Ground.phase }, { on := 1, ground := Ground.phase }, { on := 2, ground := Ground.phase }, { on := 3, ground := Ground.phase }], guard := none }]

structure St (D : Nat) (k : Int) (B : Nat) (W0 : World) (v38 v39 s3 s4 : Bool) (a : Act) (W : World) : Prop where
  n : 40 ≤ a.tmps.size
  t2 : a.eval (.tmp 2) = .pointer (some ⟨D, 0, none⟩)
  t3 : a.eval (.tmp 3) = .pointer (some ⟨D + 1, 0, none⟩)
  t4 : a.eval (.tmp 4) = .pointer (some ⟨D + 2, 0, none⟩)
  t6 : a.eval (.tmp 6) = .pointer (some ⟨D + 4, 0, none⟩)
  e38 : v38 = true → a.eval (.tmp 38) = .int .i64 k
  e39 : v39 = true → a.eval (.tmp 39) = .iface 47 (.int .i64 337)
  r0 : W.heap[D]? = some (.cells #[.slice none 0 0] 23 (0, 0))
  r1 : ∃ x, W.heap[D + 1]? = some (.cells #[x] 3 (0, 0)) ∧ (s3 = true → x = .int .i64 k)
  r2 : ∃ x, W.heap[D + 2]? = some (.cells #[x] 25 (0, 0)) ∧ (s4 = true → x = .iface 47 (.int .i64 337))
  lin : W.heap[D + 4]? = some (.cells #[.int .i64 k] 3 (0, 0))
  keeps : KeepsOthers W0 W
  below : Below B W0 W

variable {F : Fence} {n : Nat} {D : Nat} {k : Int} {B : Nat} {W0 : World} {v38 v39 s3 s4 : Bool} {a : Act} {W : World} {Q : Exit → Act → World → Prop} {K : Act → World → Prop}

theorem eval_same {a : Act} {d : Nat} {v : Value} (h : d < a.tmps.size) : (a.put (some d) v).eval (.tmp d) = v := by
  simp [Act.put, Act.eval, Array.getD_eq_getD_getElem?, h]
theorem eval_other {a : Act} {d e : Nat} {v : Value} (h : d ≠ e) : (a.put (some d) v).eval (.tmp e) = a.eval (.tmp e) := Act.eval_put (fun d' hd => by cases hd; intro h'; cases h'; exact h rfl)

theorem st_38 (h : St D k B W0 v38 v39 s3 s4 a W) : St D k B W0 true v39 s3 s4 (a.put (some 38) (.int .i64 k)) W :=
  ⟨by simpa [Act.put] using h.n, (eval_other (by decide)).trans h.t2, (eval_other (by decide)).trans h.t3, (eval_other (by decide)).trans h.t4, (eval_other (by decide)).trans h.t6, fun _ => eval_same (by have := h.n; omega),
    fun e => (eval_other (by decide)).trans (h.e39 e), h.r0, h.r1, h.r2, h.lin, h.keeps, h.below⟩
theorem st_39 (h : St D k B W0 v38 v39 s3 s4 a W) : St D k B W0 v38 true s3 s4 (a.put (some 39) (.iface 47 (.int .i64 337))) W :=
  ⟨by simpa [Act.put] using h.n, (eval_other (by decide)).trans h.t2, (eval_other (by decide)).trans h.t3, (eval_other (by decide)).trans h.t4, (eval_other (by decide)).trans h.t6, fun e => (eval_other (by decide)).trans (h.e38 e),
    fun _ => eval_same (by have := h.n; omega), h.r0, h.r1, h.r2, h.lin, h.keeps, h.below⟩
theorem st_s2 (hB : B ≤ D) (h : St D k B W0 v38 v39 s3 s4 a W) : St D k B W0 v38 v39 s3 s4 a (W.setCell ⟨D, 0, none⟩ (.slice none 0 0)) := by
  obtain ⟨x, h1, h1'⟩ := h.r1
  obtain ⟨y, h2, h2'⟩ := h.r2
  exact ⟨h.n, h.t2, h.t3, h.t4, h.t6, h.e38, h.e39, blk_set h.r0 0 _, ⟨x, blk_far h1 (by simp) _, h1'⟩, ⟨y, blk_far h2 (by simp) _, h2'⟩, blk_far h.lin (by simp) _, h.keeps.trans (KeepsOthers.setCell _ _ _), h.below.setCell hB _⟩
theorem st_s3 (hB : B ≤ D) (h : St D k B W0 v38 v39 s3 s4 a W) : St D k B W0 v38 v39 true s4 a (W.setCell ⟨D + 1, 0, none⟩ (.int .i64 k)) := by
  obtain ⟨x, h1, h1'⟩ := h.r1
  obtain ⟨y, h2, h2'⟩ := h.r2
  exact ⟨h.n, h.t2, h.t3, h.t4, h.t6, h.e38, h.e39, blk_far h.r0 (by simp) _, ⟨_, blk_set h1 0 _, fun _ => rfl⟩, ⟨y, blk_far h2 (by simp) _, h2'⟩, blk_far h.lin (by simp) _, h.keeps.trans (KeepsOthers.setCell _ _ _), h.below.setCell (by show B ≤ D + 1; omega) _⟩
theorem st_s4 (hB : B ≤ D) (h : St D k B W0 v38 v39 s3 s4 a W) : St D k B W0 v38 v39 s3 true a (W.setCell ⟨D + 2, 0, none⟩ (.iface 47 (.int .i64 337))) := by
  obtain ⟨x, h1, h1'⟩ := h.r1
  obtain ⟨y, h2, h2'⟩ := h.r2
  exact ⟨h.n, h.t2, h.t3, h.t4, h.t6, h.e38, h.e39, blk_far h.r0 (by simp) _, ⟨x, blk_far h1 (by simp) _, h1'⟩, ⟨_, blk_set h2 0 _, fun _ => rfl⟩, blk_far h.lin (by simp) _, h.keeps.trans (KeepsOthers.setCell _ _ _), h.below.setCell (by show B ≤ D + 2; omega) _⟩

theorem go0 (h : St D k B W0 v38 v39 s3 s4 a W) (hK : ∀ a, St D k B W0 true v39 s3 s4 a W → K a W) : wpOpIn F n Tryz.prog ops13 Q 0 K a W := by
  refine wpOpIn_of (o := ops13[0]) rfl rfl rfl (fun f hf => by cases hf) (fun K' hK' => ?_)
  have c : W.cell? ⟨D + 4, 0, none⟩ = some (.int .i64 k) := blk_cell h.lin 0
  have e6 := h.t6
  simp only [Act.eval, Array.getD_eq_getD_getElem?] at e6
  have e : (execOp a.eval ops13[0]).run Tryz.prog W = .ok (.value (.int .i64 k)) W := by
    show (execOp a.eval { dst := some 38, op := Op.load 3 (Operand.tmp 6), type := 3, pos := "script.go:165", after := #[], guard := none }).run Tryz.prog W = _
    simp [execOp, go_sem, e6, c]
  rw [e]
  exact hK' _ _ (hK _ (st_38 h))
theorem go1 (h : St D k B W0 v38 v39 s3 s4 a W) (hK : ∀ a, St D k B W0 v38 true s3 s4 a W → K a W) : wpOpIn F n Tryz.prog ops13 Q 1 K a W := by
  refine wpOpIn_of (o := ops13[1]) rfl rfl rfl (fun f hf => by cases hf) (fun K' hK' => ?_)
  have e : (execOp a.eval ops13[1]).run Tryz.prog W = .ok (.value (.iface 47 (.int .i64 337))) W := by
    show (execOp a.eval { dst := some 39, op := Op.makeInterface 47 (Operand.const (Value.int IntKind.i64 337)), type := 25, pos := "script.go:165", after := _, guard := none }).run Tryz.prog W = _
    simp [execOp, go_sem]
  rw [e]
  exact hK' _ _ (hK _ (st_39 h))
theorem go2 (hB : B ≤ D) (h : St D k B W0 v38 v39 s3 s4 a W) (hK : ∀ W, St D k B W0 v38 v39 s3 s4 a W → K a W) : wpOpIn F n Tryz.prog ops13 Q 2 K a W := by
  refine wpOpIn_of (o := ops13[2]) rfl rfl rfl (fun f hf => by cases hf) (fun K' hK' => ?_)
  have c : W.cell? ⟨D, 0, none⟩ = some (.slice none 0 0) := blk_cell h.r0 0
  have f := blk_frozen h.r0 0
  have e2 := h.t2
  simp only [Act.eval, Array.getD_eq_getD_getElem?] at e2
  have e : (execOp a.eval ops13[2]).run Tryz.prog W = .ok .skip (W.setCell ⟨D, 0, none⟩ (.slice none 0 0)) := by
    show (execOp a.eval { dst := none, op := Op.store 23 (Operand.tmp 2) (Operand.const (Value.slice none 0 0)), type := 0, pos := "script.go:165", after := _, guard := none }).run Tryz.prog W = _
    simp [execOp, go_sem, e2, c, f]
  rw [e]
  exact hK' _ _ (hK _ (st_s2 hB h))
theorem go3 (hB : B ≤ D) (h : St D k B W0 true v39 s3 s4 a W) (hK : ∀ W, St D k B W0 true v39 true s4 a W → K a W) : wpOpIn F n Tryz.prog ops13 Q 3 K a W := by
  refine wpOpIn_of (o := ops13[3]) rfl rfl rfl (fun f hf => by cases hf) (fun K' hK' => ?_)
  obtain ⟨x, h1, h1'⟩ := h.r1
  have c : W.cell? ⟨D + 1, 0, none⟩ = some x := blk_cell h1 0
  have f := blk_frozen h1 0
  have e3 := h.t3
  have e38 := h.e38 rfl
  simp only [Act.eval, Array.getD_eq_getD_getElem?] at e3 e38
  have e : (execOp a.eval ops13[3]).run Tryz.prog W = .ok .skip (W.setCell ⟨D + 1, 0, none⟩ (.int .i64 k)) := by
    show (execOp a.eval { dst := none, op := Op.store 3 (Operand.tmp 3) (Operand.tmp 38), type := 0, pos := "script.go:165", after := _, guard := none }).run Tryz.prog W = _
    simp [execOp, go_sem, e3, e38, c, f]
  rw [e]
  exact hK' _ _ (hK _ (st_s3 hB h))
theorem go4 (hB : B ≤ D) (h : St D k B W0 v38 true s3 s4 a W) (hK : ∀ W, St D k B W0 v38 true s3 true a W → K a W) : wpOpIn F n Tryz.prog ops13 Q 4 K a W := by
  refine wpOpIn_of (o := ops13[4]) rfl rfl rfl (fun f hf => by cases hf) (fun K' hK' => ?_)
  obtain ⟨x, h1, h1'⟩ := h.r2
  have c : W.cell? ⟨D + 2, 0, none⟩ = some x := blk_cell h1 0
  have f := blk_frozen h1 0
  have e4 := h.t4
  have e39 := h.e39 rfl
  simp only [Act.eval, Array.getD_eq_getD_getElem?] at e4 e39
  have e : (execOp a.eval ops13[4]).run Tryz.prog W = .ok .skip (W.setCell ⟨D + 2, 0, none⟩ (.iface 47 (.int .i64 337))) := by
    show (execOp a.eval { dst := none, op := Op.store 25 (Operand.tmp 4) (Operand.tmp 39), type := 0, pos := "script.go:165", after := _, guard := none }).run Tryz.prog W = _
    simp [execOp, go_sem, e4, e39, c, f]
  rw [e]
  exact hK' _ _ (hK _ (st_s4 hB h))

theorem region13 (hB : B ≤ D) (h : St D k B W0 false false false false a W) (hQ : ∀ a W, St D k B W0 true true true true a W → Q .normal a W) : (Code.region 13 ops13 true).wpIn F n Tryz.prog Q a W := by
  have h0 : St D k B W0 false false false false a { W with drawn := W.drawn + 1 } := ⟨h.n, h.t2, h.t3, h.t4, h.t6, h.e38, h.e39, h.r0, h.r1, h.r2, h.lin, h.keeps.trans (KeepsOthers.drew W), h.below.drew⟩
  refine wpIn_region_any (by kernel_rfl) ?_
  have A01234 : ∀ a W, St D k B W0 true true true true a W → wpAnyIn F n Tryz.prog .any ops13 Q 0 #[true, true, true, true, true] a W := fun a W h => wpAnyIn_end (by kernel_rfl) (hQ a W h)
  have A0123 : ∀ a W, St D k B W0 true true true false a W → wpAnyIn F n Tryz.prog .any ops13 Q 1 #[true, true, true, true, false] a W := fun a W h => wpAnyIn_branch [4] (by kernel_rfl) rfl (List.forall_mem_cons.2 ⟨go4 hB h (fun W h => A01234 a W h), by simp⟩)
  have A012 : ∀ a W, St D k B W0 true true false false a W → wpAnyIn F n Tryz.prog .any ops13 Q 2 #[true, true, true, false, false] a W := fun a W h => wpAnyIn_branch [3] (by kernel_rfl) rfl (List.forall_mem_cons.2 ⟨go3 hB h (fun W h => A0123 a W h), by simp⟩)
  have A023 : ∀ a W, St D k B W0 true false true false a W → wpAnyIn F n Tryz.prog .any ops13 Q 2 #[true, false, true, true, false] a W := fun a W h => wpAnyIn_branch [1] (by kernel_rfl) rfl (List.forall_mem_cons.2 ⟨go1 h (fun a h => A0123 a W h), by simp⟩)
  have A02 : ∀ a W, St D k B W0 true false false false a W → wpAnyIn F n Tryz.prog .any ops13 Q 3 #[true, false, true, false, false] a W := fun a W h => wpAnyIn_branch [1, 3] (by kernel_rfl) rfl (List.forall_mem_cons.2 ⟨go1 h (fun a h => A012 a W h), List.forall_mem_cons.2 ⟨go3 hB h (fun W h => A023 a W h), by simp⟩⟩)
  have A01 : ∀ a W, St D k B W0 true true false false a W → wpAnyIn F n Tryz.prog .any ops13 Q 3 #[true, true, false, false, false] a W := fun a W h => wpAnyIn_branch [2] (by kernel_rfl) rfl (List.forall_mem_cons.2 ⟨go2 hB h (fun W h => A012 a W h), by simp⟩)
  have A12 : ∀ a W, St D k B W0 false true false false a W → wpAnyIn F n Tryz.prog .any ops13 Q 3 #[false, true, true, false, false] a W := fun a W h => wpAnyIn_branch [0] (by kernel_rfl) rfl (List.forall_mem_cons.2 ⟨go0 h (fun a h => A012 a W h), by simp⟩)
  have A0 : ∀ a W, St D k B W0 true false false false a W → wpAnyIn F n Tryz.prog .any ops13 Q 4 #[true, false, false, false, false] a W := fun a W h => wpAnyIn_branch [1, 2] (by kernel_rfl) rfl (List.forall_mem_cons.2 ⟨go1 h (fun a h => A01 a W h), List.forall_mem_cons.2 ⟨go2 hB h (fun W h => A02 a W h), by simp⟩⟩)
  have A1 : ∀ a W, St D k B W0 false true false false a W → wpAnyIn F n Tryz.prog .any ops13 Q 4 #[false, true, false, false, false] a W := fun a W h => wpAnyIn_branch [0, 2] (by kernel_rfl) rfl (List.forall_mem_cons.2 ⟨go0 h (fun a h => A01 a W h), List.forall_mem_cons.2 ⟨go2 hB h (fun W h => A12 a W h), by simp⟩⟩)
  have A2 : ∀ a W, St D k B W0 false false false false a W → wpAnyIn F n Tryz.prog .any ops13 Q 4 #[false, false, true, false, false] a W := fun a W h => wpAnyIn_branch [0, 1] (by kernel_rfl) rfl (List.forall_mem_cons.2 ⟨go0 h (fun a h => A02 a W h), List.forall_mem_cons.2 ⟨go1 h (fun a h => A12 a W h), by simp⟩⟩)
  exact wpAnyIn_branch [0, 1, 2] (by kernel_rfl) rfl (List.forall_mem_cons.2 ⟨go0 h0 (fun a h => A0 a _ h), List.forall_mem_cons.2 ⟨go1 h0 (fun a h => A1 a _ h), List.forall_mem_cons.2 ⟨go2 hB h0 (fun W h => A2 a W h), by simp⟩⟩⟩)
end Go.Proofs.YtfiacgkhkonilaaGreatDoor
