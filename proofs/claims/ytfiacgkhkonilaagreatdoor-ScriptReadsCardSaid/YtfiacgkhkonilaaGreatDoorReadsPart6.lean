/- Part 6 of a proof: ReadBytes, ReadAny, RefParse, As, Num -/
import Derived.Test.YtfiacgkhkonilaaGreatDoorReadsPart5
import Derived.WalkKit
import Derived.LaidEql
import Derived.Stop.Asserts
import Derived.RowKitTokens
/- The walk of the document's Read, at the verbs with bytes. -/
namespace Go.Proofs.YtfiacgkhkonilaaGreatDoor
open Go Go.RowKit Go.Shelf Go.Proofs.YtfiacgkhkonilaaGreatDoorW.PrintWords Go.Proofs.YtfiacgkhkonilaaGreatDoorW.PrintLast Go.Proofs.YtfiacgkhkonilaaGreatDoorW.PrintMore

theorem digit_quiet (c : UInt8) (W : World) (n : Nat) : Calls Tryz.prog 42 #[.int .u8 c.toNat] (W.drewN n) fun e w'' => e = .returned (.int .i64 (hexVal c)) ∧ ∃ m, w'' = W.drewN m :=
  (ref_digit c (W.drewN n)).mono fun e w'' ⟨h, hd⟩ => ⟨h, by obtain ⟨⟨q, rfl⟩⟩ := hd; exact ⟨n + q, World.drewN_drewN _ _ _⟩⟩
theorem small_j {j n : Nat} (h : n ≤ 140737488351232) (hj : (j : Int) < (n : Int)) : (j : Int) ≤ 140737488351232 := by omega
theorem byte_at (x : ByteArray) (k : Nat) (h : k < x.size) : (x[k]'h) = x.data.toList.getD k 0 := by
  have hsz := Lib.size_eq x
  rw [List.getD_eq_getElem?_getD, List.getElem?_eq_getElem (by omega), Option.getD_some]
  simp [ByteArray.getElem_eq_getElem_data]
/-- What holds between two rounds of Read's bytes. -/
def RB (w : World) (v : ByteArray) (l : B) (k : Nat) (wr : World) : Prop := ∃ (vB : Value), wr.heap[w.heap.size]? = some (.cells #[.int .i64 0, .string ⟨#[]⟩, .slice none 0 0, .slice none 0 0, .slice none 0 0] 38 (0, 0)) ∧
      wr.heap[w.heap.size + 1]? = some (.cells #[.int .i64 0, .string v, .slice none 0 0, .slice none 0 0, vB] 38 (0, 0)) ∧ (Kd.int .u8).R 5 wr w.heap.size (fun j => w.heap.size + 2 ≤ j) vB ((List.range k).map (pv l)) ∧ Below w.heap.size w wr ∧ w.heap.size + 2 ≤ wr.heap.size ∧
      Aside0 (∀ q, q < k → pok l q)

set_option maxRecDepth 100000 in
set_option maxHeartbeats 1000000 in
theorem read_raw_many (b off cap : Nat) (v : ByteArray) (rs : List ByteArray) (w : World) (hC : Kd.string.C w (some ⟨b, off, none⟩) (v :: rs).length (v :: rs)) (hcap : (v :: rs).length ≤ cap)
    (hbad : rs.length ≠ 1) (hv : v.data.toList = vRaw) :
    Calls Tryz.prog 24 #[.slice (some ⟨b, off, none⟩) (v :: rs).length cap] w (ReadPost w (some ⟨b, off, none⟩) (v :: rs) (readRef (v.data.toList :: rs.map (·.data.toList)))) := by
  obtain ⟨ad, e0, c0⟩ := Kd.at_string hC 0 (by omega) (by simp only [List.length_cons]; omega)
  cases e0
  have hlt : b < w.heap.size := World.block_lt_of_cell? w _ c0
  have c0' : w.cell? ⟨b, off, none⟩ = some (.string v) := c0
  obtain ⟨A', hcut, hcutC, hcutB⟩ := cutS' (v :: rs) b off cap 1 (by simp) hcap
  have hcut1 : ∀ W : World, (Instr.slice 33 (.slice (some ⟨b, off, none⟩) (v :: rs).length cap) (some (.int .i64 1)) none none).run Tryz.prog W = .ok (.slice A' ((v :: rs).length - 1) (cap - 1)) W := hcut
  have hlr : (v :: rs).length - 1 = rs.length := by simp
  rw [hlr] at hcut1
  have hl1 : (0 : Int) < ((v :: rs).length : Int) := by simp only [List.length_cons]; omega
  have hl2 : (1 : Int) ≤ ((v :: rs).length : Int) := by simp only [List.length_cons]; omega
  have hvv : v.toList = vRaw := by rw [Lib.toList_data]; exact hv
  have t_set : (v.toList == ([115, 101, 116] : List UInt8)) = false := by rw [hvv]; rfl
  have t_count : (v.toList == ([99, 111, 117, 110, 116] : List UInt8)) = false := by rw [hvv]; rfl
  have t_raw : (v.toList == ([114, 97, 119] : List UInt8)) = true := by rw [hvv]; rfl
  have hna : namedRef v.data.toList = false := by rw [hv]; rfl
  have hby : bytesRef v.data.toList = true := by rw [hv]; rfl
  have hrc0 : ∀ W : World, Kd.string.C W (some ⟨b, off, none⟩) (v :: rs).length (v :: rs) → Kd.string.C W A' rs.length rs := hcutC
  have HNA := Lib.hid hna
  have HBY := Lib.hid hby
  have HC := Lib.hid hC
  have HR0 := Lib.hid hrc0
  have hro : readRef (v.data.toList :: rs.map (·.data.toList)) = none := by
    rw [readRef_cons, if_neg (by rw [HNA.out]; simp)]
    unfold restRef
    rw [if_pos HBY.out]
    match rs, hbad with
    | [], _ => rfl
    | [x], h => simp at h
    | x :: y :: l, _ => rfl
  have HRO := Lib.hid hro
  have hne : (((rs.length : Nat) : Int) != 1) = true := by rw [bne_iff_ne]; omega
  generalize hlen : (v :: rs).length = len at hcut1 hl1 hl2 ⊢
  clear c0 hC hcut hcutC hcutB hlr hna hby hrc0 hcap hvv hv hlen hro
  go_enter Tryz.func24, Tryz.ntmps24
  go_wp2
  refine bodyPost_ret (results24 _ _ w.heap.size _ _ _ _ _ _ rfl rfl (up _ (fresh w _ rfl))) rfl ?_
  rw [HRO.out]
  exact ⟨((Below.refl _ w).alloc (Nat.le_refl _) _).alloc (by simp) _, _, _, _, _, _, _, _, _, _, _, _, rfl⟩

set_option maxRecDepth 100000 in
set_option maxHeartbeats 1000000 in
theorem read_raw_odd (b off cap : Nat) (v x : ByteArray) (rs : List ByteArray) (hrs : rs = [x]) (w : World) (hC : Kd.string.C w (some ⟨b, off, none⟩) (v :: rs).length (v :: rs)) (hcap : (v :: rs).length ≤ cap)
    (hbad : x.size % 2 ≠ 0) (hv : v.data.toList = vRaw) :
    Calls Tryz.prog 24 #[.slice (some ⟨b, off, none⟩) (v :: rs).length cap] w (ReadPost w (some ⟨b, off, none⟩) (v :: rs) (readRef (v.data.toList :: rs.map (·.data.toList)))) := by
  obtain ⟨ad, e0, c0⟩ := Kd.at_string hC 0 (by omega) (by simp only [List.length_cons]; omega)
  cases e0
  have hlt : b < w.heap.size := World.block_lt_of_cell? w _ c0
  have c0' : w.cell? ⟨b, off, none⟩ = some (.string v) := c0
  obtain ⟨A', hcut, hcutC, hcutB⟩ := cutS' (v :: rs) b off cap 1 (by simp) hcap
  have hcut1 : ∀ W : World, (Instr.slice 33 (.slice (some ⟨b, off, none⟩) (v :: rs).length cap) (some (.int .i64 1)) none none).run Tryz.prog W = .ok (.slice A' ((v :: rs).length - 1) (cap - 1)) W := hcut
  have hlr : (v :: rs).length - 1 = rs.length := by simp
  rw [hlr] at hcut1
  have hl1 : (0 : Int) < ((v :: rs).length : Int) := by simp only [List.length_cons]; omega
  have hl2 : (1 : Int) ≤ ((v :: rs).length : Int) := by simp only [List.length_cons]; omega
  have hvv : v.toList = vRaw := by rw [Lib.toList_data]; exact hv
  have t_set : (v.toList == ([115, 101, 116] : List UInt8)) = false := by rw [hvv]; rfl
  have t_count : (v.toList == ([99, 111, 117, 110, 116] : List UInt8)) = false := by rw [hvv]; rfl
  have t_raw : (v.toList == ([114, 97, 119] : List UInt8)) = true := by rw [hvv]; rfl
  have hna : namedRef v.data.toList = false := by rw [hv]; rfl
  have hby : bytesRef v.data.toList = true := by rw [hv]; rfl
  have hrc0 : ∀ W : World, Kd.string.C W (some ⟨b, off, none⟩) (v :: rs).length (v :: rs) → Kd.string.C W A' rs.length rs := hcutC
  have HNA := Lib.hid hna
  have HBY := Lib.hid hby
  have HC := Lib.hid hC
  have HR0 := Lib.hid hrc0
  have hro : readRef (v.data.toList :: rs.map (·.data.toList)) = none := by
    rw [readRef_cons, if_neg (by rw [HNA.out]; simp)]
    unfold restRef
    rw [if_pos HBY.out, hrs]
    show (if x.data.toList.length % 2 = 0 then (hexOf x.data.toList).map _ else none) = none
    rw [if_neg (by rw [← Lib.size_eq]; exact hbad)]
  have HRO := Lib.hid hro
  have hone : rs.length = 1 := by rw [hrs]; rfl
  obtain ⟨ad, hAd, hcell⟩ := Kd.at_string (hrc0 w hC) 0 (by omega) (by omega)
  subst hAd
  have hcell1 : w.cell? ad = some (.string x) := by cases ad; rw [hrs] at hcell; exact hcell
  have hadl : ad.block < w.heap.size := World.block_lt_of_cell? w ad hcell1
  have hcw : ∀ o o2 : Obj, ((w.alloc o).alloc o2).cell? ad = some (.string x) := fun o o2 => (World.cell?_alloc_lt _ o2 ad (by rw [World.size_alloc]; omega)).trans ((World.cell?_alloc_lt w o ad hadl).trans hcell1)
  have hodd : ((x.size : Int) % 2 != 0) = true := by rw [bne_iff_ne]; omega
  rw [hone] at hcut1
  generalize hlen : (v :: rs).length = len at hcut1 hl1 hl2 ⊢
  clear c0 hC hcut hcutC hcutB hlr hna hby hrc0 hcap hvv hv hlen hro hcell hcell1 hrs
  go_enter Tryz.func24, Tryz.ntmps24
  go_wp2
  refine bodyPost_ret (results24 _ _ w.heap.size _ _ _ _ _ _ rfl rfl (up _ (fresh w _ rfl))) rfl ?_
  rw [HRO.out]
  exact ⟨((Below.refl _ w).alloc (Nat.le_refl _) _).alloc (by simp) _, _, _, _, _, _, _, _, _, _, _, _, rfl⟩

set_option maxRecDepth 100000 in
set_option maxHeartbeats 2000000 in
theorem read_raw_even (b off cap : Nat) (v x : ByteArray) (rs : List ByteArray) (hrs : rs = [x]) (m : Nat) (w : World) (hC : Kd.string.C w (some ⟨b, off, none⟩) (v :: rs).length (v :: rs)) (hcap : (v :: rs).length ≤ cap)
    (hm : x.size = 2 * m) (hxs : x.size ≤ 140737488351232) (hv : v.data.toList = vRaw) :
    Calls Tryz.prog 24 #[.slice (some ⟨b, off, none⟩) (v :: rs).length cap] w (ReadPost w (some ⟨b, off, none⟩) (v :: rs) (readRef (v.data.toList :: rs.map (·.data.toList)))) := by
  obtain ⟨ad, e0, c0⟩ := Kd.at_string hC 0 (by omega) (by simp only [List.length_cons]; omega)
  cases e0
  have hlt : b < w.heap.size := World.block_lt_of_cell? w _ c0
  have c0' : w.cell? ⟨b, off, none⟩ = some (.string v) := c0
  obtain ⟨A', hcut, hcutC, hcutB⟩ := cutS' (v :: rs) b off cap 1 (by simp) hcap
  have hcut1 : ∀ W : World, (Instr.slice 33 (.slice (some ⟨b, off, none⟩) (v :: rs).length cap) (some (.int .i64 1)) none none).run Tryz.prog W = .ok (.slice A' ((v :: rs).length - 1) (cap - 1)) W := hcut
  have hlr : (v :: rs).length - 1 = rs.length := by simp
  rw [hlr] at hcut1
  have hl1 : (0 : Int) < ((v :: rs).length : Int) := by simp only [List.length_cons]; omega
  have hl2 : (1 : Int) ≤ ((v :: rs).length : Int) := by simp only [List.length_cons]; omega
  have hvv : v.toList = vRaw := by rw [Lib.toList_data]; exact hv
  have t_set : (v.toList == ([115, 101, 116] : List UInt8)) = false := by rw [hvv]; rfl
  have t_count : (v.toList == ([99, 111, 117, 110, 116] : List UInt8)) = false := by rw [hvv]; rfl
  have t_raw : (v.toList == ([114, 97, 119] : List UInt8)) = true := by rw [hvv]; rfl
  have hna : namedRef v.data.toList = false := by rw [hv]; rfl
  have hby : bytesRef v.data.toList = true := by rw [hv]; rfl
  have hrc0 : ∀ W : World, Kd.string.C W (some ⟨b, off, none⟩) (v :: rs).length (v :: rs) → Kd.string.C W A' rs.length rs := hcutC
  have HNA := Lib.hid hna
  have HBY := Lib.hid hby
  have HC := Lib.hid hC
  have HR0 := Lib.hid hrc0
  have hro : readRef (v.data.toList :: rs.map (·.data.toList)) = (hexOf x.data.toList).map fun b => ⟨0, v.data.toList, [], [], b⟩ := by
    rw [readRef_cons, if_neg (by rw [HNA.out]; simp)]
    unfold restRef
    rw [if_pos HBY.out, hrs]
    show (if x.data.toList.length % 2 = 0 then (hexOf x.data.toList).map _ else none) = _
    rw [if_pos (by rw [← Lib.size_eq]; omega)]
  have hhx := hexOf_eq m x.data.toList (by rw [← Lib.size_eq]; exact hm)
  have HHX := Lib.hid hhx
  have HRO := Lib.hid hro
  have hone : rs.length = 1 := by rw [hrs]; rfl
  obtain ⟨ad, hAd, hcell⟩ := Kd.at_string (hrc0 w hC) 0 (by omega) (by omega)
  subst hAd
  have hcell1 : w.cell? ad = some (.string x) := by cases ad; rw [hrs] at hcell; exact hcell
  have hadl : ad.block < w.heap.size := World.block_lt_of_cell? w ad hcell1
  have hcw : ∀ o o2 : Obj, ((w.alloc o).alloc o2).cell? ad = some (.string x) := fun o o2 => (World.cell?_alloc_lt _ o2 ad (by rw [World.size_alloc]; omega)).trans ((World.cell?_alloc_lt w o ad hadl).trans hcell1)
  have hodd : ((x.size : Int) % 2 != 0) = false := by rw [bne_eq_false_iff_eq]; omega
  have HM := Lib.hid hm
  have HXS := Lib.hid hxs
  have HCE := Lib.hid hcell1
  rw [hone] at hcut1
  generalize hlen : (v :: rs).length = len at hcut1 hl1 hl2 ⊢
  clear c0 hC hcut hcutC hcutB hlr hna hby hrc0 hcap hvv hv hlen hro hcell hcell1 hrs hhx hm hxs
  go_enter Tryz.func24, Tryz.ntmps24
  go_wp2
  obtain ⟨W0, hW0⟩ : ∃ W0, (w.alloc (.cells #[.int .i64 0, .string ⟨#[]⟩, .slice none 0 0, .slice none 0 0, .slice none 0 0] 38)).alloc (.cells #[.int .i64 0, .string v, .slice none 0 0, .slice none 0 0, .slice none 0 0] 38) = W0 := ⟨_, rfl⟩
  have q0 : W0.heap[w.heap.size]? = some (.cells #[.int .i64 0, .string ⟨#[]⟩, .slice none 0 0, .slice none 0 0, .slice none 0 0] 38 (0, 0)) := by
    rw [← hW0]; exact up _ (fresh w _ rfl)
  have q1 : W0.heap[w.heap.size + 1]? = some (.cells #[.int .i64 0, .string v, .slice none 0 0, .slice none 0 0, .slice none 0 0] 38 (0, 0)) := by
    rw [← hW0]; exact fresh _ _ (by simp)
  have qb : Below w.heap.size w W0 := by rw [← hW0]; exact ((Below.refl _ w).alloc (Nat.le_refl _) _).alloc (by simp) _
  have qs : w.heap.size + 2 ≤ W0.heap.size := by rw [← hW0]; simp
  rw [hW0]
  have Q0 := Lib.hid q0
  have Q1 := Lib.hid q1
  have QB := Lib.hid qb
  clear q0 q1 qb hW0 hcw
  go_loopw [7] (fun i wr => ∃ (k j : Nat), k ≤ m ∧ i = .int .i64 (j : Int) ∧ Aside0 (j = 2 * k) ∧ RB w v x.data.toList k wr) (fun i _ => 2 * m - (intOf i).toNat)
  case atStart => exact ⟨0, 0, Nat.zero_le _, rfl, ⟨rfl⟩, _, Q0.out, Q1.out, Kd.R_nil _ _ _ _ _, QB.out, by omega, ⟨fun q hq => by omega⟩⟩
  case round =>
    obtain ⟨k, j, hk, rfl, HJ, vB, hb0, hb1, hR, hbl, hsz2, HOK⟩ := hrel
    have cx : wr.cell? ad = some (.string x) := (hbl.cell hadl).trans HCE.out
    have HR := Lib.hid hR
    have HB0 := Lib.hid hb0
    have HB1 := Lib.hid hb1
    have HBL := Lib.hid hbl
    by_cases hkn : k < m
    · have hi1 : (j : Int) < (x.size : Int) := by have := HM.out; have := HJ.out; omega
      have hi2 : (j : Int) + 1 < (x.size : Int) := by have := HM.out; have := HJ.out; omega
      have hi0 : (0 : Int) ≤ (j : Int) := by omega
      have hi3 : (0 : Int) ≤ (j : Int) + 1 := by omega
      have hj63 : (j : Int) ≤ 140737488351232 := small_j HXS.out hi1
      have hx1 : bt x (j : Int) = ((x.data.toList.getD j 0).toNat : Int) := bt_nat x j (by omega)
      have hx2 : bt x ((j : Int) + 1) = ((x.data.toList.getD (j + 1) 0).toNat : Int) := bt_nat x (j + 1) (by omega)
      have ht1 := bt_at x (j : Int)
      have ht2 := bt_at x ((j : Int) + 1)
      rw [hx1] at ht1
      rw [hx2] at ht2
      clear hR hb0 hb1 hbl hx1 hx2
      go_wp2
      refine wp_region_quiet_lit (by kernel_rfl) (by kernel_rfl) ?_
      repeat (go_big_quiet_step ((go_at_call 42; exact digit_quiet _ _ _)))
      refine wpQuiet_nil ?_
      rintro _ ⟨nq, rfl⟩
      have hpv : pv x.data.toList k = hexVal (x[j]'(by omega)) * 16 + hexVal (x[j + 1]'(by omega)) := by unfold pv; rw [byte_at, byte_at, HJ.out]
      have hpo : pok x.data.toList k ↔ 0 ≤ hexVal (x[j]'(by omega)) ∧ 0 ≤ hexVal (x[j + 1]'(by omega)) := by unfold pok; rw [byte_at, byte_at, HJ.out]
      have hr0 := hexVal_range (x[j]'(by omega))
      have hr1 := hexVal_range (x[j + 1]'(by omega))
      generalize hexVal (x[j]'(by omega)) = x0 at *
      generalize hexVal (x[j + 1]'(by omega)) = x1 at *
      have HPV := Lib.hid hpv
      have HPO := Lib.hid hpo
      have hkm : k < m := hkn
      have HKM := Lib.hid hkm
      clear hpv hpo ht1 ht2 hkn hkm
      have bad : ¬ pok x.data.toList k → readRef (v.data.toList :: rs.map (·.data.toList)) = none := fun h => by
        rw [HRO.out, HHX.out.2 (fun ha => h (ha k HKM.out))]; rfl
      have BAD := Lib.hid bad
      have hln : ((List.range k).map (pv x.data.toList)).length = k := by simp
      have HLN := Lib.hid hln
      clear bad hln
      by_cases hx0 : x0 < 0
      · obtain ⟨A2, c2, rfl⟩ := Kd.R_slice HR.out
        obtain ⟨⟨k0, k1, k2, k3, k4⟩, ⟨f0, f1, f2, f3, f4⟩⟩ := cells38 HB1.out
        obtain ⟨⟨d0, d1, d2, d3, d4⟩, ⟨e0, e1, e2, e3, e4⟩⟩ := cells38 HB0.out
        go_wp2
        refine bodyPost_ret (results24 _ _ w.heap.size _ _ _ _ _ _ rfl rfl (set5_heap' (w := wr.drewN nq) HB0.out)) rfl ?_
        rw [BAD.out (fun h => by have := HPO.out.1 h; omega)]
        have hb := pw_below_drewN HBL.out nq
        exact ⟨hb.grown (set5_grown _ w.heap.size _ _ _ _ _) hb.size (fun k e => by cases e; exact Nat.le_refl _), _, _, _, _, _, _, _, _, _, _, _, rfl⟩
      · by_cases hx1 : x1 < 0
        · obtain ⟨A2, c2, rfl⟩ := Kd.R_slice HR.out
          obtain ⟨⟨k0, k1, k2, k3, k4⟩, ⟨f0, f1, f2, f3, f4⟩⟩ := cells38 HB1.out
          obtain ⟨⟨d0, d1, d2, d3, d4⟩, ⟨e0, e1, e2, e3, e4⟩⟩ := cells38 HB0.out
          go_wp2
          refine bodyPost_ret (results24 _ _ w.heap.size _ _ _ _ _ _ rfl rfl (set5_heap' (w := wr.drewN nq) HB0.out)) rfl ?_
          rw [BAD.out (fun h => by have := HPO.out.1 h; omega)]
          have hb := pw_below_drewN HBL.out nq
          exact ⟨hb.grown (set5_grown _ w.heap.size _ _ _ _ _) hb.size (fun k e => by cases e; exact Nat.le_refl _), _, _, _, _, _, _, _, _, _, _, _, rfl⟩
        · have hby1 : (16 * x0 + x1) % 256 = 16 * x0 + x1 := by omega
          have hkb : k ≤ 140737488351232 := by have := HKM.out; have := HM.out; have := HXS.out; omega
          have k4 : wr.cell? ⟨w.heap.size + 1, 4, none⟩ = some vB := blk_cell HB1.out 4
          have hown : ∀ q, vB.ownBlock = some q → w.heap.size + 2 ≤ q := HR.out.1
          have HOW := Lib.hid hown
          have hlim : (((List.range k).map (pv x.data.toList)).length + 1) * 1 ≤ 140737488355328 := by rw [HLN.out]; omega
          have HLI := Lib.hid hlim
          have hpk : pv x.data.toList k = 16 * x0 + x1 := by rw [HPV.out]; omega
          have HPK := Lib.hid hpk
          have hok1 : 0 ≤ x0 ∧ 0 ≤ x1 := by omega
          have HOK1 := Lib.hid hok1
          clear hown hlim hpk hok1
          go_wp2_with (at_builtin; refine Kd.R_append (Kd.int .u8) (w0 := wr.drewN nq) w.heap.size rfl (.tmp 98) (.tmp 104) 35 5 (.int .u8 0) 1 rfl Tryz.underlying35 info5 rfl (by decide) (by omega) vB ((List.range k).map (pv x.data.toList)) (16 * x0 + x1) [.int .u8 (16 * x0 + x1)] (fun q => w.heap.size + 2 ≤ q) (fun _ => False) rfl rfl ?aP (fun _ hk => hk.elim) ?aF ?aO ?aB ?aS ?aL ?_; (case aP => exact rfl); (case aF => (intro q hq; have hq' : wr.heap.size ≤ q := hq; omega)); (case aO => exact HR.out); (case aB => exact Below.refl _ _); (case aS => exact HBL.out.size); (case aL => exact HLI.out); intro v1 w2 ho hb2 hg2 hat; obtain ⟨A1, q1, rfl⟩ := Kd.R_slice ho; have hne := fun (g : Nat) (hg : g < w.heap.size + 2) (e : some g = vB.ownBlock) => (by have := HOW.out g e.symm; omega : False); have hk0 := blk_grown (w := wr.drewN nq) HB0.out hg2 (hne _ (by omega)); have hk1 := blk_grown (w := wr.drewN nq) HB1.out hg2 (hne _ (by omega)); have c4 : w2.cell? ⟨w.heap.size + 1, 4, none⟩ = some vB := blk_cell hk1 4; have f4 := blk_frozen hk1 4; have HK0b := Lib.hid hk0; have HK1b := Lib.hid hk1; have HO := Lib.hid ho; have HG2 := Lib.hid hg2; clear hk0 hk1 ho hg2 hat hb2 hne)
          go_roundw
          case rel =>
            refine ⟨k + 1, j + 2, by have := HKM.out; omega, by go_num, ⟨by have := HJ.out; omega⟩, _, blk_far HK0b.out (by simp) _, blk_set HK1b.out 4 _, ?_, ?_, ?_, ⟨fun q hq => ?_⟩⟩
            · have h := Kd.R_set HO.out HK1b.out (by simp [Kd.int, Kd.scalar]) 4 (.slice A1 (k + 1) q1)
              rw [← HPK.out] at h
              rw [List.range_succ, List.map_append, List.map_singleton]
              simpa using h
            · have hb := pw_below_drewN HBL.out nq
              exact (hb.grown HG2.out hb.size (fun q e => by have := HOW.out q e; omega)).setCell (by simp) _
            · have h2 : wr.heap.size ≤ w2.heap.size := HG2.out.size
              simp; omega
            · rcases Nat.lt_succ_iff_lt_or_eq.1 hq with h | rfl
              · exact HOK.out q h
              · exact HPO.out.2 HOK1.out
          case measure => have := HKM.out; have := HJ.out; simp [intOf]; omega
    · obtain rfl : k = m := by omega
      obtain ⟨A2, c2, rfl⟩ := Kd.R_slice hR
      obtain ⟨⟨k0, k1, k2, k3, k4⟩, _⟩ := cells38 hb1
      obtain ⟨⟨d0, d1, d2, d3, d4⟩, ⟨e0, e1, e2, e3, e4⟩⟩ := cells38 hb0
      have hend : ¬ (j : Int) < (x.size : Int) := by have := HM.out; have := HJ.out; omega
      clear hR hb0 hb1 hbl
      go_wp2
      refine bodyPost_ret (results24 _ _ w.heap.size _ _ _ _ _ _ rfl rfl (set5_heap' HB0.out)) rfl ?_
      rw [HRO.out, HHX.out.1 HOK.out]
      have hg := set5_grown wr w.heap.size (.int .i64 0) (.string v) (.slice none 0 0) (.slice none 0 0) (.slice A2 ((List.range k).map (pv x.data.toList)).length c2)
      have hR2 := Kd.R_mono (R_past HR.out HB0.out (by simp [Kd.int, Kd.scalar]) hg) (ok' := fun _ => True) (fun _ _ => trivial)
      simp only [List.length_map, List.length_range] at hR2 hg
      refine ⟨HBL.out.grown hg HBL.out.size (fun k e => by cases e; exact Nat.le_refl _), none, 0, 0, none, 0, 0, A2, _, c2, ?_, win_nil _ _, Kd.R_nil _ _ _ _ _, hR2⟩
      rw [mk_of]

set_option maxRecDepth 100000 in
set_option maxHeartbeats 1000000 in
theorem read_config_many (b off cap : Nat) (v : ByteArray) (rs : List ByteArray) (w : World) (hC : Kd.string.C w (some ⟨b, off, none⟩) (v :: rs).length (v :: rs)) (hcap : (v :: rs).length ≤ cap)
    (hbad : rs.length ≠ 1) (hv : v.data.toList = vConfig) :
    Calls Tryz.prog 24 #[.slice (some ⟨b, off, none⟩) (v :: rs).length cap] w (ReadPost w (some ⟨b, off, none⟩) (v :: rs) (readRef (v.data.toList :: rs.map (·.data.toList)))) := by
  obtain ⟨ad, e0, c0⟩ := Kd.at_string hC 0 (by omega) (by simp only [List.length_cons]; omega)
  cases e0
  have hlt : b < w.heap.size := World.block_lt_of_cell? w _ c0
  have c0' : w.cell? ⟨b, off, none⟩ = some (.string v) := c0
  obtain ⟨A', hcut, hcutC, hcutB⟩ := cutS' (v :: rs) b off cap 1 (by simp) hcap
  have hcut1 : ∀ W : World, (Instr.slice 33 (.slice (some ⟨b, off, none⟩) (v :: rs).length cap) (some (.int .i64 1)) none none).run Tryz.prog W = .ok (.slice A' ((v :: rs).length - 1) (cap - 1)) W := hcut
  have hlr : (v :: rs).length - 1 = rs.length := by simp
  rw [hlr] at hcut1
  have hl1 : (0 : Int) < ((v :: rs).length : Int) := by simp only [List.length_cons]; omega
  have hl2 : (1 : Int) ≤ ((v :: rs).length : Int) := by simp only [List.length_cons]; omega
  have hvv : v.toList = vConfig := by rw [Lib.toList_data]; exact hv
  have t_set : (v.toList == ([115, 101, 116] : List UInt8)) = false := by rw [hvv]; rfl
  have t_count : (v.toList == ([99, 111, 117, 110, 116] : List UInt8)) = false := by rw [hvv]; rfl
  have t_raw : (v.toList == ([114, 97, 119] : List UInt8)) = false := by rw [hvv]; rfl
  have t_config : (v.toList == ([99, 111, 110, 102, 105, 103] : List UInt8)) = true := by rw [hvv]; rfl
  have hna : namedRef v.data.toList = false := by rw [hv]; rfl
  have hby : bytesRef v.data.toList = true := by rw [hv]; rfl
  have hrc0 : ∀ W : World, Kd.string.C W (some ⟨b, off, none⟩) (v :: rs).length (v :: rs) → Kd.string.C W A' rs.length rs := hcutC
  have HNA := Lib.hid hna
  have HBY := Lib.hid hby
  have HC := Lib.hid hC
  have HR0 := Lib.hid hrc0
  have hro : readRef (v.data.toList :: rs.map (·.data.toList)) = none := by
    rw [readRef_cons, if_neg (by rw [HNA.out]; simp)]
    unfold restRef
    rw [if_pos HBY.out]
    match rs, hbad with
    | [], _ => rfl
    | [x], h => simp at h
    | x :: y :: l, _ => rfl
  have HRO := Lib.hid hro
  have hne : (((rs.length : Nat) : Int) != 1) = true := by rw [bne_iff_ne]; omega
  generalize hlen : (v :: rs).length = len at hcut1 hl1 hl2 ⊢
  clear c0 hC hcut hcutC hcutB hlr hna hby hrc0 hcap hvv hv hlen hro
  go_enter Tryz.func24, Tryz.ntmps24
  go_wp2
  refine bodyPost_ret (results24 _ _ w.heap.size _ _ _ _ _ _ rfl rfl (up _ (fresh w _ rfl))) rfl ?_
  rw [HRO.out]
  exact ⟨((Below.refl _ w).alloc (Nat.le_refl _) _).alloc (by simp) _, _, _, _, _, _, _, _, _, _, _, _, rfl⟩

set_option maxRecDepth 100000 in
set_option maxHeartbeats 1000000 in
theorem read_config_odd (b off cap : Nat) (v x : ByteArray) (rs : List ByteArray) (hrs : rs = [x]) (w : World) (hC : Kd.string.C w (some ⟨b, off, none⟩) (v :: rs).length (v :: rs)) (hcap : (v :: rs).length ≤ cap)
    (hbad : x.size % 2 ≠ 0) (hv : v.data.toList = vConfig) :
    Calls Tryz.prog 24 #[.slice (some ⟨b, off, none⟩) (v :: rs).length cap] w (ReadPost w (some ⟨b, off, none⟩) (v :: rs) (readRef (v.data.toList :: rs.map (·.data.toList)))) := by
  obtain ⟨ad, e0, c0⟩ := Kd.at_string hC 0 (by omega) (by simp only [List.length_cons]; omega)
  cases e0
  have hlt : b < w.heap.size := World.block_lt_of_cell? w _ c0
  have c0' : w.cell? ⟨b, off, none⟩ = some (.string v) := c0
  obtain ⟨A', hcut, hcutC, hcutB⟩ := cutS' (v :: rs) b off cap 1 (by simp) hcap
  have hcut1 : ∀ W : World, (Instr.slice 33 (.slice (some ⟨b, off, none⟩) (v :: rs).length cap) (some (.int .i64 1)) none none).run Tryz.prog W = .ok (.slice A' ((v :: rs).length - 1) (cap - 1)) W := hcut
  have hlr : (v :: rs).length - 1 = rs.length := by simp
  rw [hlr] at hcut1
  have hl1 : (0 : Int) < ((v :: rs).length : Int) := by simp only [List.length_cons]; omega
  have hl2 : (1 : Int) ≤ ((v :: rs).length : Int) := by simp only [List.length_cons]; omega
  have hvv : v.toList = vConfig := by rw [Lib.toList_data]; exact hv
  have t_set : (v.toList == ([115, 101, 116] : List UInt8)) = false := by rw [hvv]; rfl
  have t_count : (v.toList == ([99, 111, 117, 110, 116] : List UInt8)) = false := by rw [hvv]; rfl
  have t_raw : (v.toList == ([114, 97, 119] : List UInt8)) = false := by rw [hvv]; rfl
  have t_config : (v.toList == ([99, 111, 110, 102, 105, 103] : List UInt8)) = true := by rw [hvv]; rfl
  have hna : namedRef v.data.toList = false := by rw [hv]; rfl
  have hby : bytesRef v.data.toList = true := by rw [hv]; rfl
  have hrc0 : ∀ W : World, Kd.string.C W (some ⟨b, off, none⟩) (v :: rs).length (v :: rs) → Kd.string.C W A' rs.length rs := hcutC
  have HNA := Lib.hid hna
  have HBY := Lib.hid hby
  have HC := Lib.hid hC
  have HR0 := Lib.hid hrc0
  have hro : readRef (v.data.toList :: rs.map (·.data.toList)) = none := by
    rw [readRef_cons, if_neg (by rw [HNA.out]; simp)]
    unfold restRef
    rw [if_pos HBY.out, hrs]
    show (if x.data.toList.length % 2 = 0 then (hexOf x.data.toList).map _ else none) = none
    rw [if_neg (by rw [← Lib.size_eq]; exact hbad)]
  have HRO := Lib.hid hro
  have hone : rs.length = 1 := by rw [hrs]; rfl
  obtain ⟨ad, hAd, hcell⟩ := Kd.at_string (hrc0 w hC) 0 (by omega) (by omega)
  subst hAd
  have hcell1 : w.cell? ad = some (.string x) := by cases ad; rw [hrs] at hcell; exact hcell
  have hadl : ad.block < w.heap.size := World.block_lt_of_cell? w ad hcell1
  have hcw : ∀ o o2 : Obj, ((w.alloc o).alloc o2).cell? ad = some (.string x) := fun o o2 => (World.cell?_alloc_lt _ o2 ad (by rw [World.size_alloc]; omega)).trans ((World.cell?_alloc_lt w o ad hadl).trans hcell1)
  have hodd : ((x.size : Int) % 2 != 0) = true := by rw [bne_iff_ne]; omega
  rw [hone] at hcut1
  generalize hlen : (v :: rs).length = len at hcut1 hl1 hl2 ⊢
  clear c0 hC hcut hcutC hcutB hlr hna hby hrc0 hcap hvv hv hlen hro hcell hcell1 hrs
  go_enter Tryz.func24, Tryz.ntmps24
  go_wp2
  refine bodyPost_ret (results24 _ _ w.heap.size _ _ _ _ _ _ rfl rfl (up _ (fresh w _ rfl))) rfl ?_
  rw [HRO.out]
  exact ⟨((Below.refl _ w).alloc (Nat.le_refl _) _).alloc (by simp) _, _, _, _, _, _, _, _, _, _, _, _, rfl⟩

set_option maxRecDepth 100000 in
set_option maxHeartbeats 2000000 in
theorem read_config_even (b off cap : Nat) (v x : ByteArray) (rs : List ByteArray) (hrs : rs = [x]) (m : Nat) (w : World) (hC : Kd.string.C w (some ⟨b, off, none⟩) (v :: rs).length (v :: rs)) (hcap : (v :: rs).length ≤ cap)
    (hm : x.size = 2 * m) (hxs : x.size ≤ 140737488351232) (hv : v.data.toList = vConfig) :
    Calls Tryz.prog 24 #[.slice (some ⟨b, off, none⟩) (v :: rs).length cap] w (ReadPost w (some ⟨b, off, none⟩) (v :: rs) (readRef (v.data.toList :: rs.map (·.data.toList)))) := by
  obtain ⟨ad, e0, c0⟩ := Kd.at_string hC 0 (by omega) (by simp only [List.length_cons]; omega)
  cases e0
  have hlt : b < w.heap.size := World.block_lt_of_cell? w _ c0
  have c0' : w.cell? ⟨b, off, none⟩ = some (.string v) := c0
  obtain ⟨A', hcut, hcutC, hcutB⟩ := cutS' (v :: rs) b off cap 1 (by simp) hcap
  have hcut1 : ∀ W : World, (Instr.slice 33 (.slice (some ⟨b, off, none⟩) (v :: rs).length cap) (some (.int .i64 1)) none none).run Tryz.prog W = .ok (.slice A' ((v :: rs).length - 1) (cap - 1)) W := hcut
  have hlr : (v :: rs).length - 1 = rs.length := by simp
  rw [hlr] at hcut1
  have hl1 : (0 : Int) < ((v :: rs).length : Int) := by simp only [List.length_cons]; omega
  have hl2 : (1 : Int) ≤ ((v :: rs).length : Int) := by simp only [List.length_cons]; omega
  have hvv : v.toList = vConfig := by rw [Lib.toList_data]; exact hv
  have t_set : (v.toList == ([115, 101, 116] : List UInt8)) = false := by rw [hvv]; rfl
  have t_count : (v.toList == ([99, 111, 117, 110, 116] : List UInt8)) = false := by rw [hvv]; rfl
  have t_raw : (v.toList == ([114, 97, 119] : List UInt8)) = false := by rw [hvv]; rfl
  have t_config : (v.toList == ([99, 111, 110, 102, 105, 103] : List UInt8)) = true := by rw [hvv]; rfl
  have hna : namedRef v.data.toList = false := by rw [hv]; rfl
  have hby : bytesRef v.data.toList = true := by rw [hv]; rfl
  have hrc0 : ∀ W : World, Kd.string.C W (some ⟨b, off, none⟩) (v :: rs).length (v :: rs) → Kd.string.C W A' rs.length rs := hcutC
  have HNA := Lib.hid hna
  have HBY := Lib.hid hby
  have HC := Lib.hid hC
  have HR0 := Lib.hid hrc0
  have hro : readRef (v.data.toList :: rs.map (·.data.toList)) = (hexOf x.data.toList).map fun b => ⟨0, v.data.toList, [], [], b⟩ := by
    rw [readRef_cons, if_neg (by rw [HNA.out]; simp)]
    unfold restRef
    rw [if_pos HBY.out, hrs]
    show (if x.data.toList.length % 2 = 0 then (hexOf x.data.toList).map _ else none) = _
    rw [if_pos (by rw [← Lib.size_eq]; omega)]
  have hhx := hexOf_eq m x.data.toList (by rw [← Lib.size_eq]; exact hm)
  have HHX := Lib.hid hhx
  have HRO := Lib.hid hro
  have hone : rs.length = 1 := by rw [hrs]; rfl
  obtain ⟨ad, hAd, hcell⟩ := Kd.at_string (hrc0 w hC) 0 (by omega) (by omega)
  subst hAd
  have hcell1 : w.cell? ad = some (.string x) := by cases ad; rw [hrs] at hcell; exact hcell
  have hadl : ad.block < w.heap.size := World.block_lt_of_cell? w ad hcell1
  have hcw : ∀ o o2 : Obj, ((w.alloc o).alloc o2).cell? ad = some (.string x) := fun o o2 => (World.cell?_alloc_lt _ o2 ad (by rw [World.size_alloc]; omega)).trans ((World.cell?_alloc_lt w o ad hadl).trans hcell1)
  have hodd : ((x.size : Int) % 2 != 0) = false := by rw [bne_eq_false_iff_eq]; omega
  have HM := Lib.hid hm
  have HXS := Lib.hid hxs
  have HCE := Lib.hid hcell1
  rw [hone] at hcut1
  generalize hlen : (v :: rs).length = len at hcut1 hl1 hl2 ⊢
  clear c0 hC hcut hcutC hcutB hlr hna hby hrc0 hcap hvv hv hlen hro hcell hcell1 hrs hhx hm hxs
  go_enter Tryz.func24, Tryz.ntmps24
  go_wp2
  obtain ⟨W0, hW0⟩ : ∃ W0, (w.alloc (.cells #[.int .i64 0, .string ⟨#[]⟩, .slice none 0 0, .slice none 0 0, .slice none 0 0] 38)).alloc (.cells #[.int .i64 0, .string v, .slice none 0 0, .slice none 0 0, .slice none 0 0] 38) = W0 := ⟨_, rfl⟩
  have q0 : W0.heap[w.heap.size]? = some (.cells #[.int .i64 0, .string ⟨#[]⟩, .slice none 0 0, .slice none 0 0, .slice none 0 0] 38 (0, 0)) := by
    rw [← hW0]; exact up _ (fresh w _ rfl)
  have q1 : W0.heap[w.heap.size + 1]? = some (.cells #[.int .i64 0, .string v, .slice none 0 0, .slice none 0 0, .slice none 0 0] 38 (0, 0)) := by
    rw [← hW0]; exact fresh _ _ (by simp)
  have qb : Below w.heap.size w W0 := by rw [← hW0]; exact ((Below.refl _ w).alloc (Nat.le_refl _) _).alloc (by simp) _
  have qs : w.heap.size + 2 ≤ W0.heap.size := by rw [← hW0]; simp
  rw [hW0]
  have Q0 := Lib.hid q0
  have Q1 := Lib.hid q1
  have QB := Lib.hid qb
  clear q0 q1 qb hW0 hcw
  go_loopw [7] (fun i wr => ∃ (k j : Nat), k ≤ m ∧ i = .int .i64 (j : Int) ∧ Aside0 (j = 2 * k) ∧ RB w v x.data.toList k wr) (fun i _ => 2 * m - (intOf i).toNat)
  case atStart => exact ⟨0, 0, Nat.zero_le _, rfl, ⟨rfl⟩, _, Q0.out, Q1.out, Kd.R_nil _ _ _ _ _, QB.out, by omega, ⟨fun q hq => by omega⟩⟩
  case round =>
    obtain ⟨k, j, hk, rfl, HJ, vB, hb0, hb1, hR, hbl, hsz2, HOK⟩ := hrel
    have cx : wr.cell? ad = some (.string x) := (hbl.cell hadl).trans HCE.out
    have HR := Lib.hid hR
    have HB0 := Lib.hid hb0
    have HB1 := Lib.hid hb1
    have HBL := Lib.hid hbl
    by_cases hkn : k < m
    · have hi1 : (j : Int) < (x.size : Int) := by have := HM.out; have := HJ.out; omega
      have hi2 : (j : Int) + 1 < (x.size : Int) := by have := HM.out; have := HJ.out; omega
      have hi0 : (0 : Int) ≤ (j : Int) := by omega
      have hi3 : (0 : Int) ≤ (j : Int) + 1 := by omega
      have hj63 : (j : Int) ≤ 140737488351232 := small_j HXS.out hi1
      have hx1 : bt x (j : Int) = ((x.data.toList.getD j 0).toNat : Int) := bt_nat x j (by omega)
      have hx2 : bt x ((j : Int) + 1) = ((x.data.toList.getD (j + 1) 0).toNat : Int) := bt_nat x (j + 1) (by omega)
      have ht1 := bt_at x (j : Int)
      have ht2 := bt_at x ((j : Int) + 1)
      rw [hx1] at ht1
      rw [hx2] at ht2
      clear hR hb0 hb1 hbl hx1 hx2
      go_wp2
      refine wp_region_quiet_lit (by kernel_rfl) (by kernel_rfl) ?_
      repeat (go_big_quiet_step ((go_at_call 42; exact digit_quiet _ _ _)))
      refine wpQuiet_nil ?_
      rintro _ ⟨nq, rfl⟩
      have hpv : pv x.data.toList k = hexVal (x[j]'(by omega)) * 16 + hexVal (x[j + 1]'(by omega)) := by unfold pv; rw [byte_at, byte_at, HJ.out]
      have hpo : pok x.data.toList k ↔ 0 ≤ hexVal (x[j]'(by omega)) ∧ 0 ≤ hexVal (x[j + 1]'(by omega)) := by unfold pok; rw [byte_at, byte_at, HJ.out]
      have hr0 := hexVal_range (x[j]'(by omega))
      have hr1 := hexVal_range (x[j + 1]'(by omega))
      generalize hexVal (x[j]'(by omega)) = x0 at *
      generalize hexVal (x[j + 1]'(by omega)) = x1 at *
      have HPV := Lib.hid hpv
      have HPO := Lib.hid hpo
      have hkm : k < m := hkn
      have HKM := Lib.hid hkm
      clear hpv hpo ht1 ht2 hkn hkm
      have bad : ¬ pok x.data.toList k → readRef (v.data.toList :: rs.map (·.data.toList)) = none := fun h => by
        rw [HRO.out, HHX.out.2 (fun ha => h (ha k HKM.out))]; rfl
      have BAD := Lib.hid bad
      have hln : ((List.range k).map (pv x.data.toList)).length = k := by simp
      have HLN := Lib.hid hln
      clear bad hln
      by_cases hx0 : x0 < 0
      · obtain ⟨A2, c2, rfl⟩ := Kd.R_slice HR.out
        obtain ⟨⟨k0, k1, k2, k3, k4⟩, ⟨f0, f1, f2, f3, f4⟩⟩ := cells38 HB1.out
        obtain ⟨⟨d0, d1, d2, d3, d4⟩, ⟨e0, e1, e2, e3, e4⟩⟩ := cells38 HB0.out
        go_wp2
        refine bodyPost_ret (results24 _ _ w.heap.size _ _ _ _ _ _ rfl rfl (set5_heap' (w := wr.drewN nq) HB0.out)) rfl ?_
        rw [BAD.out (fun h => by have := HPO.out.1 h; omega)]
        have hb := pw_below_drewN HBL.out nq
        exact ⟨hb.grown (set5_grown _ w.heap.size _ _ _ _ _) hb.size (fun k e => by cases e; exact Nat.le_refl _), _, _, _, _, _, _, _, _, _, _, _, rfl⟩
      · by_cases hx1 : x1 < 0
        · obtain ⟨A2, c2, rfl⟩ := Kd.R_slice HR.out
          obtain ⟨⟨k0, k1, k2, k3, k4⟩, ⟨f0, f1, f2, f3, f4⟩⟩ := cells38 HB1.out
          obtain ⟨⟨d0, d1, d2, d3, d4⟩, ⟨e0, e1, e2, e3, e4⟩⟩ := cells38 HB0.out
          go_wp2
          refine bodyPost_ret (results24 _ _ w.heap.size _ _ _ _ _ _ rfl rfl (set5_heap' (w := wr.drewN nq) HB0.out)) rfl ?_
          rw [BAD.out (fun h => by have := HPO.out.1 h; omega)]
          have hb := pw_below_drewN HBL.out nq
          exact ⟨hb.grown (set5_grown _ w.heap.size _ _ _ _ _) hb.size (fun k e => by cases e; exact Nat.le_refl _), _, _, _, _, _, _, _, _, _, _, _, rfl⟩
        · have hby1 : (16 * x0 + x1) % 256 = 16 * x0 + x1 := by omega
          have hkb : k ≤ 140737488351232 := by have := HKM.out; have := HM.out; have := HXS.out; omega
          have k4 : wr.cell? ⟨w.heap.size + 1, 4, none⟩ = some vB := blk_cell HB1.out 4
          have hown : ∀ q, vB.ownBlock = some q → w.heap.size + 2 ≤ q := HR.out.1
          have HOW := Lib.hid hown
          have hlim : (((List.range k).map (pv x.data.toList)).length + 1) * 1 ≤ 140737488355328 := by rw [HLN.out]; omega
          have HLI := Lib.hid hlim
          have hpk : pv x.data.toList k = 16 * x0 + x1 := by rw [HPV.out]; omega
          have HPK := Lib.hid hpk
          have hok1 : 0 ≤ x0 ∧ 0 ≤ x1 := by omega
          have HOK1 := Lib.hid hok1
          clear hown hlim hpk hok1
          go_wp2_with (at_builtin; refine Kd.R_append (Kd.int .u8) (w0 := wr.drewN nq) w.heap.size rfl (.tmp 98) (.tmp 104) 35 5 (.int .u8 0) 1 rfl Tryz.underlying35 info5 rfl (by decide) (by omega) vB ((List.range k).map (pv x.data.toList)) (16 * x0 + x1) [.int .u8 (16 * x0 + x1)] (fun q => w.heap.size + 2 ≤ q) (fun _ => False) rfl rfl ?aP (fun _ hk => hk.elim) ?aF ?aO ?aB ?aS ?aL ?_; (case aP => exact rfl); (case aF => (intro q hq; have hq' : wr.heap.size ≤ q := hq; omega)); (case aO => exact HR.out); (case aB => exact Below.refl _ _); (case aS => exact HBL.out.size); (case aL => exact HLI.out); intro v1 w2 ho hb2 hg2 hat; obtain ⟨A1, q1, rfl⟩ := Kd.R_slice ho; have hne := fun (g : Nat) (hg : g < w.heap.size + 2) (e : some g = vB.ownBlock) => (by have := HOW.out g e.symm; omega : False); have hk0 := blk_grown (w := wr.drewN nq) HB0.out hg2 (hne _ (by omega)); have hk1 := blk_grown (w := wr.drewN nq) HB1.out hg2 (hne _ (by omega)); have c4 : w2.cell? ⟨w.heap.size + 1, 4, none⟩ = some vB := blk_cell hk1 4; have f4 := blk_frozen hk1 4; have HK0b := Lib.hid hk0; have HK1b := Lib.hid hk1; have HO := Lib.hid ho; have HG2 := Lib.hid hg2; clear hk0 hk1 ho hg2 hat hb2 hne)
          go_roundw
          case rel =>
            refine ⟨k + 1, j + 2, by have := HKM.out; omega, by go_num, ⟨by have := HJ.out; omega⟩, _, blk_far HK0b.out (by simp) _, blk_set HK1b.out 4 _, ?_, ?_, ?_, ⟨fun q hq => ?_⟩⟩
            · have h := Kd.R_set HO.out HK1b.out (by simp [Kd.int, Kd.scalar]) 4 (.slice A1 (k + 1) q1)
              rw [← HPK.out] at h
              rw [List.range_succ, List.map_append, List.map_singleton]
              simpa using h
            · have hb := pw_below_drewN HBL.out nq
              exact (hb.grown HG2.out hb.size (fun q e => by have := HOW.out q e; omega)).setCell (by simp) _
            · have h2 : wr.heap.size ≤ w2.heap.size := HG2.out.size
              simp; omega
            · rcases Nat.lt_succ_iff_lt_or_eq.1 hq with h | rfl
              · exact HOK.out q h
              · exact HPO.out.2 HOK1.out
          case measure => have := HKM.out; have := HJ.out; simp [intOf]; omega
    · obtain rfl : k = m := by omega
      obtain ⟨A2, c2, rfl⟩ := Kd.R_slice hR
      obtain ⟨⟨k0, k1, k2, k3, k4⟩, _⟩ := cells38 hb1
      obtain ⟨⟨d0, d1, d2, d3, d4⟩, ⟨e0, e1, e2, e3, e4⟩⟩ := cells38 hb0
      have hend : ¬ (j : Int) < (x.size : Int) := by have := HM.out; have := HJ.out; omega
      clear hR hb0 hb1 hbl
      go_wp2
      refine bodyPost_ret (results24 _ _ w.heap.size _ _ _ _ _ _ rfl rfl (set5_heap' HB0.out)) rfl ?_
      rw [HRO.out, HHX.out.1 HOK.out]
      have hg := set5_grown wr w.heap.size (.int .i64 0) (.string v) (.slice none 0 0) (.slice none 0 0) (.slice A2 ((List.range k).map (pv x.data.toList)).length c2)
      have hR2 := Kd.R_mono (R_past HR.out HB0.out (by simp [Kd.int, Kd.scalar]) hg) (ok' := fun _ => True) (fun _ _ => trivial)
      simp only [List.length_map, List.length_range] at hR2 hg
      refine ⟨HBL.out.grown hg HBL.out.size (fun k e => by cases e; exact Nat.le_refl _), none, 0, 0, none, 0, 0, A2, _, c2, ?_, win_nil _ _, Kd.R_nil _ _ _ _ _, hR2⟩
      rw [mk_of]
end Go.Proofs.YtfiacgkhkonilaaGreatDoor

/- The document's Read is the plain readCmd. -/
namespace Go.Proofs.YtfiacgkhkonilaaGreatDoor
open Go Go.RowKit Go.Proofs.YtfiacgkhkonilaaGreatDoorW.PrintWords

theorem read_any (b off cap : Nat) (v : ByteArray) (rs : List ByteArray) (w : World) (hC : Kd.string.C w (some ⟨b, off, none⟩) (v :: rs).length (v :: rs)) (hcap : (v :: rs).length ≤ cap)
    (hl : rs.length < 4294967295) (hsz : ∀ x ∈ rs, x.size ≤ 140737488351232) (hne : ∀ x ∈ rs, x.data.toList ≠ []) :
    Calls Tryz.prog 24 #[.slice (some ⟨b, off, none⟩) (v :: rs).length cap] w (ReadPost w (some ⟨b, off, none⟩) (v :: rs) (readCmd (v.data.toList :: rs.map (·.data.toList)))) := by
  rw [← readRef_eq _ _ (fun x hx => by obtain ⟨y, hy, rfl⟩ := List.mem_map.1 hx; exact hne y hy)]
  by_cases h1 : v.data.toList = vRaw
  · by_cases h : rs.length = 1
    · obtain ⟨x, rfl⟩ := List.length_eq_one_iff.1 h
      have hx := hsz x (by simp)
      by_cases h2 : x.size % 2 = 0
      · exact read_raw_even b off cap v x [x] rfl (x.size / 2) w hC hcap (by omega) hx h1
      · exact read_raw_odd b off cap v x [x] rfl w hC hcap h2 h1
    · exact read_raw_many b off cap v rs w hC hcap h h1
  by_cases h2 : v.data.toList = vConfig
  · by_cases h : rs.length = 1
    · obtain ⟨x, rfl⟩ := List.length_eq_one_iff.1 h
      have hx := hsz x (by simp)
      by_cases h3 : x.size % 2 = 0
      · exact read_config_even b off cap v x [x] rfl (x.size / 2) w hC hcap (by omega) hx h2
      · exact read_config_odd b off cap v x [x] rfl w hC hcap h3 h2
    · exact read_config_many b off cap v rs w hC hcap h h2
  have hb : bytesRef v.data.toList = false := by simp [bytesRef, h1, h2]
  by_cases h3 : v.data.toList = vSet
  · match rs, hC, hcap, hl with
    | [], hC, hcap, hl => exact read_set_none b off cap v [] w hC hcap (.inl rfl) h3 hl
    | nm :: r, hC, hcap, hl =>
      by_cases h : isName nm.data.toList = true
      · exact read_set_name b off cap v nm r w hC hcap h h3 (by simp at hl; omega)
      · exact read_set_none b off cap v (nm :: r) w hC hcap (.inr ⟨nm, r, rfl, by simpa using h⟩) h3 hl
  by_cases h4 : v.data.toList = vCount
  · match rs, hC, hcap, hl with
    | [], hC, hcap, hl => exact read_count_none b off cap v [] w hC hcap (.inl rfl) h4 hl
    | nm :: r, hC, hcap, hl =>
      by_cases h : isName nm.data.toList = true
      · exact read_count_name b off cap v nm r w hC hcap h h4 (by simp at hl; omega)
      · exact read_count_none b off cap v (nm :: r) w hC hcap (.inr ⟨nm, r, rfl, by simpa using h⟩) h4 hl
  have hn : namedRef v.data.toList = false := by simp [namedRef, h3, h4]
  exact read_plain b off cap v rs w hC hcap hn hb hl
end Go.Proofs.YtfiacgkhkonilaaGreatDoor

/- The walk of the document's Parse: the commands of a text. -/
namespace Go.Proofs.YtfiacgkhkonilaaGreatDoor
open Go Go.RowKit Go.Shelf Go.Proofs.YtfiacgkhkonilaaGreatDoorW.PrintWords Go.Proofs.YtfiacgkhkonilaaGreatDoorW.PrintLast Go.Proofs.YtfiacgkhkonilaaGreatDoorW.PrintMore
open Go.Proofs.YtfiacgkhkonilaaGreatDoor.Pwords

/-- A row of texts that is a piece of a row of one's own. -/
def subS : Kd (List ByteArray) where
  sz := 1
  E := [9]
  K := fun w xs cs => ∃ A c, cs = [.slice A xs.length c] ∧ xs.length ≤ c ∧ Kd.string.C w A xs.length xs
  M := fun w base ok xs cs => ∃ A c u full, cs = [.slice A xs.length c] ∧ xs.length ≤ c ∧ Kd.string.R 9 w base ok u full ∧ ∀ w' base' ok', Kd.string.R 9 w' base' ok' u full → Kd.string.C w' A xs.length xs
  K_len := by
    rintro w x cs ⟨A, c, rfl, _⟩
    rfl
  K_one := by
    rintro w x cs ⟨A, c, rfl, _⟩ u hu
    rw [List.mem_singleton.1 hu]
    rfl
  K_below := by
    rintro w w1 x cs hb ⟨A, c, rfl, hl, hr⟩
    exact ⟨A, c, rfl, hl, Kd.C_below hr hb⟩
  K_of_M := by
    rintro w base ok x cs ⟨A, c, u, full, rfl, hl, hr, hC⟩
    exact ⟨A, c, rfl, hl, hC _ _ _ hr⟩
  M_mono := by
    rintro w base ok ok' x cs hok ⟨A, c, u, full, rfl, hl, hr, hC⟩
    exact ⟨A, c, u, full, rfl, hl, Kd.R_mono hr hok, hC⟩
  M_bound := by
    rintro w base ok x cs ⟨A, c, u, full, rfl, hl, hr, hC⟩
    exact ⟨A, c, u, full, rfl, hl, Kd.R_bound hr, hC⟩
  M_move := by
    rintro w w1 base ok x cs hm ⟨A, c, u, full, rfl, hl, hr, hC⟩
    exact ⟨A, c, u, full, rfl, hl, Kd.R_move hr hm, hC⟩
  M_lower := by
    rintro w base base' ok x cs hb ⟨A, c, u, full, rfl, hl, hr, hC⟩
    exact ⟨A, c, u, full, rfl, hl, Kd.R_lower hr hb, hC⟩
def kdRef : Kd Cmd := Kd.iso (Kd.pair (Kd.int .i64) (Kd.pair Kd.string (Kd.pair subS (Kd.pair (Kd.slice 2 (Kd.int .i64)) (Kd.slice 5 (Kd.int .u8))))))
  (fun c => (c.line, mk c.verb, c.words.map mk, c.nums, c.bytes))
theorem kdRef_C {w : World} {A : Option Addr} {n : Nat} {cs : List Cmd} (h : kdRef.C w A n cs) : kdCmd.C w A n cs := Kd.C_imp rfl (fun _ _ _ h => h) h
theorem info38 : (Tryz.prog.info? 38).map (fun i => (i.zero, i.size, i.bytes)) = some (some (.agg #[.int .i64 0, .string ⟨#[]⟩, .slice none 0 0, .slice none 0 0, .slice none 0 0]), 5, 96) := by kernel_rfl
theorem kdRef_M {w : World} {base : Nat} {ok : Nat → Prop} {c : Cmd} {A1 : Option Addr} {n1 c1 : Nat} {u vN vB : Value} {full : List ByteArray} (hn : n1 = (c.words.map mk).length) (hc : n1 ≤ c1) (hW : Kd.string.R 9 w base ok u full)
    (hP : ∀ w' base' ok', Kd.string.R 9 w' base' ok' u full → Kd.string.C w' A1 n1 (c.words.map mk)) (hN : (Kd.int .i64).R 2 w base ok vN c.nums) (hB : (Kd.int .u8).R 5 w base ok vB c.bytes) :
    kdRef.M w base ok c [.int .i64 c.line, .string (mk c.verb), .slice A1 n1 c1, vN, vB] := by
  subst hn
  exact ⟨[.int .i64 c.line], [.string (mk c.verb), .slice A1 (c.words.map mk).length c1, vN, vB], rfl, rfl, [.string (mk c.verb)], [.slice A1 (c.words.map mk).length c1, vN, vB], rfl, rfl, [.slice A1 (c.words.map mk).length c1], [vN, vB], rfl, ⟨A1, c1, u, full, rfl, hc, hW, hP⟩, [vN], [vB], rfl, ⟨vN, rfl, hN⟩, ⟨vB, rfl, hB⟩⟩

/-- What the document's Parse leaves. -/
def RefPost (w : World) (s : ByteArray) (e : Ending) (w' : World) : Prop := Below w.heap.size w w' ∧
  if 65536 < s.size then e = .returned (.tuple #[.slice none 0 0, .int .i64 0, .int .i64 2]) else
  match parseLines 0 (lines s.data.toList) [] with
  | .ok cs => ∃ A c, e = .returned (.tuple #[.slice A cs.length c, .int .i64 0, .int .i64 0]) ∧ cs.length ≤ c ∧ kdCmd.C w' A cs.length cs ∧ (0 < cs.length → ∃ g, A = some ⟨g, 0, none⟩)
  | .error k => e = .returned (.tuple #[.slice none 0 0, .int .i64 k, .int .i64 337])

theorem ref_words (s : ByteArray) (w : World) (hs : s.size < 8796093022208) : Calls Tryz.prog 23 #[.string s] w fun e w' => ∃ v, e = .returned v ∧ Kd.string.R 9 w' w.heap.size (fun _ => True) v ((wordsOf s.data.toList).map mk) ∧ Below w.heap.size w w' :=
  radomeref40_words.calls _ s _ w (words_law s hs)

set_option maxRecDepth 100000 in
theorem refparse_long (s : ByteArray) (w : World) (h : 65536 < s.size) : Calls Tryz.prog 8 #[.string s] w (RefPost w s) := by
  have h1 : (65536 : Int) < (s.size : Int) := by omega
  have H := Lib.hid h
  clear h
  go_enter Tryz.func8, Tryz.ntmps8
  go_wp2
  go_ret3
  refine ⟨Below.refl _ _, ?_⟩
  rw [if_pos H.out]; rfl

/-- Where the document's Parse stands: k letters are looked at; the line that is open begins at fr; the lines pre are read, as cs. -/
structure PP (l : B) (k fr : Nat) (pre : List B) (cs : List Cmd) : Prop where
  le : fr ≤ k
  many : cs.length ≤ pre.length
  few : pre.length ≤ k
  rel : ∀ rest, parseLines 0 (pre ++ rest) [] = parseLines pre.length rest cs
  open_ : k ≤ l.length → lines l = pre ++ lines (l.drop fr) ∧ ∀ j, fr ≤ j → j < k → l[j]? ≠ some 10
  done : l.length < k → lines l = pre
theorem PP.start (l : B) : PP l 0 0 [] [] := ⟨Nat.le_refl _, Nat.le_refl _, Nat.le_refl _, fun _ => rfl, fun _ => ⟨rfl, fun j _ h => by omega⟩, fun h => by omega⟩
theorem PP.letter {l : B} {k fr : Nat} {pre : List B} {cs : List Cmd} (h : PP l k fr pre cs) (hk : k < l.length) (hc : l.getD k 0 ≠ 10) : PP l (k + 1) fr pre cs :=
  ⟨by have := h.le; omega, h.many, by have := h.few; omega, h.rel, fun h1 => ⟨(h.open_ (by omega)).1, fun j h2 h3 => by
    rcases Nat.lt_succ_iff_lt_or_eq.1 h3 with h4 | rfl
    · exact (h.open_ (by omega)).2 j h2 h4
    · rw [List.getElem?_eq_getElem hk]
      intro e
      rw [List.getD_eq_getElem?_getD, List.getElem?_eq_getElem hk, Option.getD_some] at hc
      exact hc (Option.some.inj e)⟩, fun h1 => by omega⟩
/-- The line that ends at k. -/
def seg (l : B) (fr k : Nat) : B := (l.take k).drop fr
theorem PP.cut {l : B} {k fr : Nat} {pre : List B} {cs : List Cmd} (h : PP l k fr pre cs) (hk : k ≤ l.length) (hc : k < l.length → l.getD k 0 = 10) : lines l = pre ++ seg l fr k :: (if k < l.length then lines (l.drop (k + 1)) else []) := by
  obtain ⟨h1, h2⟩ := h.open_ hk
  rw [h1]
  congr 1
  have hn : ∀ j : Nat, (seg l fr k)[j]? ≠ some 10 := fun j => by
    unfold seg
    rw [List.getElem?_drop]
    by_cases hj : fr + j < k
    · rw [List.getElem?_take_of_lt hj]; exact h2 _ (by omega) hj
    · rw [List.getElem?_eq_none (by rw [List.length_take]; omega)]; intro h; cases h
  by_cases hkl : k < l.length
  · rw [if_pos hkl]
    have e : l.drop fr = seg l fr k ++ 10 :: l.drop (k + 1) := by
      have e1 : l = l.take k ++ 10 :: l.drop (k + 1) := by
        have := hc hkl
        rw [List.getD_eq_getElem?_getD, List.getElem?_eq_getElem hkl, Option.getD_some] at this
        rw [← this, List.getElem_cons_drop, List.take_append_drop]
      conv => lhs; rw [e1]
      rw [List.drop_append, List.length_take, show fr - min k l.length = 0 by have := h.le; omega, List.drop_zero]; rfl
    rw [e]; exact lines_cut _ _ hn
  · rw [if_neg hkl]
    have e : l.drop fr = seg l fr k := by unfold seg; rw [List.take_of_length_le (by omega)]
    rw [e]; exact lines_one _ hn
theorem PP.next {l : B} {k fr : Nat} {pre : List B} {cs cs' : List Cmd} (h : PP l k fr pre cs) (hk : k ≤ l.length) (hc : k < l.length → l.getD k 0 = 10) (hm : cs'.length ≤ cs.length + 1)
    (hr : ∀ rest, parseLines pre.length (seg l fr k :: rest) cs = parseLines (pre.length + 1) rest cs') : PP l (k + 1) (k + 1) (pre ++ [seg l fr k]) cs' := by
  have hcut := h.cut hk hc
  refine ⟨Nat.le_refl _, by have := h.many; simp; omega, by have := h.few; simp; omega, fun rest => ?_, fun h1 => ⟨?_, fun j h2 h3 => by omega⟩, fun h1 => ?_⟩
  · rw [List.append_assoc, h.rel, List.singleton_append, hr]; simp
  · rw [hcut, if_pos (by omega)]; simp
  · rw [hcut, if_neg (by omega)]
theorem seg_extract (s : ByteArray) (fr k : Nat) : s.extract fr k = mk (seg s.data.toList fr k) := extract_mk s fr k
theorem seg_size (l : B) (fr k : Nat) : (seg l fr k).length ≤ l.length := by unfold seg; simp; omega
/-! ### the walk -/
theorem fieldsGo_ne : ∀ (l cur : B), ∀ w ∈ fieldsGo cur l, w ≠ []
  | [], cur, w, h => by
    unfold fieldsGo at h
    split at h
    · cases h
    · rename_i hc
      rw [List.mem_singleton.1 h]; exact hc
  | c :: r, cur, w, h => by
    unfold fieldsGo at h
    split at h
    · split at h
      · exact fieldsGo_ne r [] w h
      · rename_i hc
        rcases List.mem_cons.1 h with rfl | h
        · exact hc
        · exact fieldsGo_ne r [] w h
    · exact fieldsGo_ne r _ w h
theorem ref_far {w W1 : World} {Bz Bz1 g q3 : Nat} {c : Cmd} {ws : List ByteArray} {A1 A2 A3 : Option Addr} {n1 n2 n3 d1 d2 d3 : Nat} {og : Option Nat} (h0 : w.heap.size ≤ Bz) (h01 : Bz ≤ Bz1) (hu : Kd.string.R 9 W1 Bz (fun _ => True) (.slice (some ⟨g, 0, none⟩) ws.length q3) ws)
    (hwin : Win (some ⟨g, 0, none⟩) ws A1 n1 d1 (c.words.map mk)) (h2 : (Kd.int .i64).R 2 W1 Bz1 (fun _ => True) (.slice A2 n2 d2) c.nums) (h3 : (Kd.int .u8).R 5 W1 Bz1 (fun _ => True) (.slice A3 n3 d3) c.bytes) (hg : ∀ b, og = some b → b < Bz) :
    kdRef.M W1 w.heap.size (fun k => True ∧ some k ≠ og) c [.int .i64 c.line, .string (mk c.verb), .slice A1 n1 d1, .slice A2 n2 d2, .slice A3 n3 d3] := by
  have aux : ∀ k, Bz ≤ k → True ∧ some k ≠ og := fun k hk => ⟨trivial, fun e => by have := hg k e.symm; omega⟩
  exact kdRef_M hwin.1 hwin.2.1 (Kd.R_mono (Kd.R_lower (Kd.R_bound hu) h0) (fun k hk => aux k hk.2.1)) (fun w' _ _ hr => hwin.2.2 w' (Kd.R_reads' hr).2.2)
    (Kd.R_mono (Kd.R_lower (Kd.R_bound h2) (by omega)) (fun k hk => aux k (by have := hk.2.1; omega))) (Kd.R_mono (Kd.R_lower (Kd.R_bound h3) (by omega)) (fun k hk => aux k (by have := hk.2.1; omega)))
/-- What holds between two rounds of the document's Parse. -/
def RP (w : World) (l : B) (k fr ln : Nat) (vo : Value) (wr : World) : Prop := ∃ pre cs, ln = pre.length ∧ PP l k fr pre cs ∧ kdRef.R 38 wr w.heap.size (fun _ => True) vo cs ∧ Below w.heap.size w wr

set_option maxRecDepth 100000 in
set_option maxHeartbeats 4000000 in
theorem refparse_full (s : ByteArray) (w : World) (h : s.size ≤ 65536) : Calls Tryz.prog 8 #[.string s] w (RefPost w s) := by
  have h1 : ¬ (65536 : Int) < (s.size : Int) := by omega
  have HSS := Lib.hid (Lib.size_eq s)
  have H := Lib.hid h
  clear h
  go_enter Tryz.func8, Tryz.ntmps8
  go_wp2
  go_loopw [5, 6, 7, 8] (fun o f ln i wr => ∃ (k fr n : Nat) (vo : Value), k ≤ s.size + 1 ∧ vo = o ∧ f = .int .i64 fr ∧ ln = .int .i64 n ∧ i = .int .i64 k ∧ RP w s.data.toList k fr n vo wr) (fun _ _ _ i _ => s.size + 1 - (intOf i).toNat)
  case atStart => exact ⟨0, 0, 0, _, by omega, rfl, rfl, rfl, rfl, [], [], rfl, PP.start _, Kd.R_nil _ _ _ _ _, Below.refl _ _⟩
  case round =>
    obtain ⟨k, fr, n, vo, hk, rfl, rfl, rfl, rfl, pre, cs, rfl, hPP, hR, hbl⟩ := hrel
    have HPP := Lib.hid hPP
    have HR := Lib.hid hR
    have HBL := Lib.hid hbl
    have hfr := hPP.le
    have hfw := hPP.few
    have hk63 : k ≤ 65537 := by have := H.out; omega
    have hp63 : pre.length ≤ 65537 := by omega
    clear hPP hR hbl
    by_cases hkn : k ≤ s.size
    · have hkl : k ≤ s.data.toList.length := by have := HSS.out; omega
      have HKL := Lib.hid hkl
      have hfk : (fr : Int) ≤ (k : Int) := by omega
      have hk1 : (k : Int) ≤ (s.size : Int) := by omega
      have hf0 : (0 : Int) ≤ (fr : Int) := by omega
      have hk0 : (0 : Int) ≤ (k : Int) := by omega
      have hwc : ∀ W : World, Calls Tryz.prog 23 #[.string (s.extract fr k)] W fun e w' => ∃ v, e = .returned v ∧ Kd.string.R 9 w' W.heap.size (fun _ => True) v ((wordsOf (seg s.data.toList fr k)).map mk) ∧ Below W.heap.size W w' := fun W => by
        have := ref_words (s.extract fr k) W (by rw [seg_extract, mk_size]; have := seg_size s.data.toList fr k; have := H.out; have := HSS.out; omega)
        rw [show (s.extract fr k).data.toList = seg s.data.toList fr k by rw [seg_extract, mk_data]] at this
        exact this
      have HW := Lib.hid hwc
      clear hwc hkl
      by_cases hks : k < s.size
      · have hks1 : (k : Int) < (s.size : Int) := by omega
        by_cases hnl : s.data.toList.getD k 0 = 10
        · have hbt : (((s[k]'hks).toNat : Int) != 10) = false := by rw [byte_at, hnl]; rfl
          have HNLc := Lib.hid (show k < s.data.toList.length → s.data.toList.getD k 0 = 10 from fun _ => hnl)
          clear hnl
          rcases hws : wordsOf (seg s.data.toList fr k) with _ | ⟨v, rs⟩
          · have HWS := Lib.hid (show (wordsOf (seg s.data.toList fr k)).map mk = [] by rw [hws]; rfl)
            have HWE := Lib.hid hws
            clear hws
            go_wp2_with (go_at_call 23; refine (HW.out _).mono ?_; rintro e w1 ⟨u, rfl, hR1, hb1⟩; rw [HWS.out] at hR1; obtain ⟨A1, q1, rfl⟩ := Kd.R_slice hR1; dsimp only; have HB1 := Lib.hid hb1; clear hb1 hR1)
            go_roundw
            case rel =>
              refine ⟨k + 1, k + 1, pre.length + 1, vo, by omega, rfl, by go_num, by go_num, by go_num, pre ++ [seg s.data.toList fr k], cs, by simp, ?_, ?_, ?_⟩
              · exact HPP.out.next HKL.out HNLc.out (by omega) (fun rest => by rw [parseLines_app, HWE.out])
              · exact Kd.R_below HR.out HB1.out
              · exact HBL.out.trans (HB1.out.mono HBL.out.size)
            case measure => simp [intOf]; omega
          · have hf : fieldsGo [] (noteCut (seg s.data.toList fr k)) = v :: rs := hws
            have hfs := fieldsGo_size (noteCut (seg s.data.toList fr k)) []
            have hnc := noteCut_size (seg s.data.toList fr k)
            have hsg := seg_size s.data.toList fr k
            rw [hf] at hfs
            have hlen := Lib.size_eq s
            have hn1 : (rs.map mk).length < 4294967295 := by
              have a1 := hfs.1
              rw [List.length_cons] at a1
              have a4 := H.out
              rw [List.length_map]; omega
            have hn2 : ∀ y ∈ rs.map mk, y.size ≤ 140737488351232 := by
              intro y hy
              obtain ⟨z, hz, rfl⟩ := List.mem_map.1 hy
              have a1 := hfs.2 z (List.mem_cons_of_mem _ hz)
              rw [List.length_nil] at a1
              have a4 := H.out
              rw [mk_size]; omega
            have hn3 : ∀ y ∈ rs.map mk, y.data.toList ≠ [] := by
              intro y hy
              obtain ⟨z, hz, rfl⟩ := List.mem_map.1 hy
              rw [mk_data]
              exact fieldsGo_ne _ _ z (by rw [hf]; exact List.mem_cons_of_mem _ hz)
            have hid : ((mk v).data.toList :: (rs.map mk).map (·.data.toList)) = v :: rs := by simp [Function.comp_def, mk_data]
            have HID := Lib.hid hid
            have HN1 := Lib.hid hn1
            have HN2 := Lib.hid hn2
            have HN3 := Lib.hid hn3
            have HWS := Lib.hid (show (wordsOf (seg s.data.toList fr k)).map mk = List.map mk (v :: rs) by rw [hws])
            have HWE := Lib.hid hws
            obtain ⟨L, hL⟩ : ∃ L, (List.map mk (v :: rs)).length = L := ⟨_, rfl⟩
            have hL0 : 0 < L := by rw [← hL]; simp
            have HL := Lib.hid hL
            have hws8 : w.heap.size ≤ wr.heap.size := HBL.out.size
            have hli : (cs.length + 1) * 96 ≤ 140737488355328 := by have := HPP.out.many; omega
            have HLI := Lib.hid hli
            clear hf hfs hnc hsg hlen hn1 hn2 hn3 hid hws hL hli
            rcases hrc : readCmd (v :: rs) with _ | c
            · have HRC := Lib.hid hrc
              clear hrc
              go_wp2_with (first
                | (go_at_call 23; refine (HW.out _).mono ?_; rintro e w1 ⟨u, rfl, hR1, hb1⟩; rw [HWS.out] at hR1; obtain ⟨g, q3, rfl, hg, hg2, _⟩ := Kd.R_form hR1 (by simp); have hcm := read_any g 0 q3 (mk v) (rs.map mk) w1 (Kd.R_reads' hR1).2.2 (Kd.R_reads' hR1).2.1 HN1.out HN2.out HN3.out; rw [show (mk v :: List.map mk rs).length = L from HL.out, HID.out] at hcm; have HR1 := Lib.hid hR1; rw [HL.out]; dsimp only; have HCM := Lib.hid hcm; have HB1 := Lib.hid hb1; have hsz1 := hb1.size; clear hb1 hR1 hcm)
                | (go_at_call 24; refine HCM.out.mono ?_; rw [HRC.out]; rintro e w2 ⟨hb2, lb, vb, A1, n1, d1, A2, n2, d2, A3, n3, d3, rfl⟩; dsimp only; have HB2 := Lib.hid hb2; clear hb2))
              go_ret3
              have hb := (HBL.out.trans (HB1.out.mono HBL.out.size)).trans (HB2.out.mono (by omega))
              refine ⟨hb.alloc (by have := HB2.out.size; omega) _, ?_⟩
              have hcut := HPP.out.cut HKL.out HNLc.out
              rw [if_neg (by have := H.out; omega), hcut, HPP.out.rel, parseLines_app, HWE.out]
              simp only [HRC.out]
              rfl
            · have HRC := Lib.hid hrc
              clear hrc
              go_wp2_with (first
                | (go_at_call 23; refine (HW.out _).mono ?_; rintro e w1 ⟨u, rfl, hR1, hb1⟩; rw [HWS.out] at hR1; obtain ⟨g, q3, rfl, hg, hg2, _⟩ := Kd.R_form hR1 (by simp); have hcm := read_any g 0 q3 (mk v) (rs.map mk) w1 (Kd.R_reads' hR1).2.2 (Kd.R_reads' hR1).2.1 HN1.out HN2.out HN3.out; rw [show (mk v :: List.map mk rs).length = L from HL.out, HID.out] at hcm; have HR1 := Lib.hid hR1; rw [HL.out]; dsimp only; have HCM := Lib.hid hcm; have HB1 := Lib.hid hb1; have hsz1 := hb1.size; clear hb1 hR1 hcm)
                | (go_at_call 24; refine HCM.out.mono ?_; rw [HRC.out]; rintro e w2 ⟨hb2, A1, n1, d1, A2, n2, d2, A3, n3, d3, rfl, hwin, hr2, hr3⟩; dsimp only; have hM := ref_far (w := w) (W1 := w2.alloc (Obj.cells #[Value.int IntKind.i64 ((pre.length : Int) + 1), Value.string (mk c.verb), Value.slice A1 n1 d1, Value.slice A2 n2 d2, Value.slice A3 n3 d3] 38)) (Bz := wr.heap.size) (Bz1 := w1.heap.size) (ws := List.map mk (v :: rs)) (c := { c with line := (pre.length : Int) + 1 }) (og := vo.ownBlock) hws8 hsz1 (Kd.R_alloc (Kd.R_below HR1.out hb2) _) hwin (Kd.R_alloc hr2 _) (Kd.R_alloc hr3 _) (fun b e => Kd.R_lt HR.out b e); have hro := Kd.R_alloc (Kd.R_below (Kd.R_below HR.out HB1.out) hb2) (Obj.cells #[Value.int IntKind.i64 ((pre.length : Int) + 1), Value.string (mk c.verb), Value.slice A1 n1 d1, Value.slice A2 n2 d2, Value.slice A3 n3 d3] 38); have hsz2 := hb2.size; have HMM := Lib.hid hM; have HRO := Lib.hid hro; have HB2 := Lib.hid hb2; clear hb2 hM hro hr2 hr3 hwin)
                | (at_builtin; refine Kd.R_append kdRef (w0 := w2.alloc (Obj.cells #[Value.int IntKind.i64 ((pre.length : Int) + 1), Value.string (mk c.verb), Value.slice A1 n1 d1, Value.slice A2 n2 d2, Value.slice A3 n3 d3] 38)) w.heap.size rfl (.tmp 53) (.tmp 55) 28 38 (.agg #[.int .i64 0, .string ⟨#[]⟩, .slice none 0 0, .slice none 0 0, .slice none 0 0]) 96 rfl Tryz.underlying28 info38 rfl (by decide) (by omega) vo cs { c with line := (pre.length : Int) + 1 } [Value.int IntKind.i64 ((pre.length : Int) + 1), Value.string (mk c.verb), Value.slice A1 n1 d1, Value.slice A2 n2 d2, Value.slice A3 n3 d3] (fun _ => True) (fun k => True ∧ some k ≠ vo.ownBlock) rfl ?aX ?aP (fun _ hk => hk) ?aF ?aO ?aB ?aS ?aL ?_; (case aX => (simp only [World.size_alloc]; rfl)); (case aP => exact HMM.out); (case aF => exact (fun _ _ => trivial)); (case aO => exact HRO.out); (case aB => exact Below.refl _ _); (case aS => ((try simp only [World.size_alloc]); omega)); (case aL => exact HLI.out); intro v1 w5 ho hb5 hg5 hat; obtain ⟨A9, q9, rfl⟩ := Kd.R_slice ho; have HO := Lib.hid ho; have HG5 := Lib.hid hg5; clear ho hb5 hg5 hat))
              go_roundw
              case rel =>
                refine ⟨k + 1, k + 1, pre.length + 1, _, by omega, rfl, by go_num, by go_num, by go_num, pre ++ [seg s.data.toList fr k], cs ++ [{ c with line := (pre.length : Int) + 1 }], by simp, ?_, ?_, ?_⟩
                · exact HPP.out.next HKL.out HNLc.out (by simp) (fun rest => by
                    rw [parseLines_app, HWE.out]
                    simp only [HRC.out])
                · have h := HO.out
                  rw [List.length_append] at h
                  exact h
                · have hb := ((HBL.out.trans (HB1.out.mono HBL.out.size)).trans (HB2.out.mono (by omega))).alloc (show w.heap.size ≤ w2.heap.size by omega) (Obj.cells #[Value.int IntKind.i64 ((pre.length : Int) + 1), Value.string (mk c.verb), Value.slice A1 n1 d1, Value.slice A2 n2 d2, Value.slice A3 n3 d3] 38)
                  exact hb.grown HG5.out hb.size (fun j e => Kd.R_base HR.out j e)
              case measure => simp [intOf]; omega

        · have hbt : (((s[k]'hks).toNat : Int) != 10) = true := by rw [byte_at, bne_iff_ne]; exact fun e => hnl (UInt8.toNat.inj (by have : (10 : UInt8).toNat = 10 := rfl; omega))
          have HNL := Lib.hid hnl
          clear hnl
          go_wp2
          go_roundw
          case rel => exact ⟨k + 1, fr, pre.length, vo, by omega, rfl, rfl, rfl, by go_num, pre, cs, rfl, HPP.out.letter (by have := HSS.out; omega) HNL.out, HR.out, HBL.out⟩
          case measure => simp [intOf]; omega
      · have hks1 : ¬ (k : Int) < (s.size : Int) := by omega
        have HNLc := Lib.hid (show k < s.data.toList.length → s.data.toList.getD k 0 = 10 from fun h => absurd h (by have := HSS.out; omega))
        rcases hws : wordsOf (seg s.data.toList fr k) with _ | ⟨v, rs⟩
        · have HWS := Lib.hid (show (wordsOf (seg s.data.toList fr k)).map mk = [] by rw [hws]; rfl)
          have HWE := Lib.hid hws
          clear hws
          go_wp2_with (go_at_call 23; refine (HW.out _).mono ?_; rintro e w1 ⟨u, rfl, hR1, hb1⟩; rw [HWS.out] at hR1; obtain ⟨A1, q1, rfl⟩ := Kd.R_slice hR1; dsimp only; have HB1 := Lib.hid hb1; clear hb1 hR1)
          go_roundw
          case rel =>
            refine ⟨k + 1, k + 1, pre.length + 1, vo, by omega, rfl, by go_num, by go_num, by go_num, pre ++ [seg s.data.toList fr k], cs, by simp, ?_, ?_, ?_⟩
            · exact HPP.out.next HKL.out HNLc.out (by omega) (fun rest => by rw [parseLines_app, HWE.out])
            · exact Kd.R_below HR.out HB1.out
            · exact HBL.out.trans (HB1.out.mono HBL.out.size)
          case measure => simp [intOf]; omega
        · have hf : fieldsGo [] (noteCut (seg s.data.toList fr k)) = v :: rs := hws
          have hfs := fieldsGo_size (noteCut (seg s.data.toList fr k)) []
          have hnc := noteCut_size (seg s.data.toList fr k)
          have hsg := seg_size s.data.toList fr k
          rw [hf] at hfs
          have hlen := Lib.size_eq s
          have hn1 : (rs.map mk).length < 4294967295 := by
            have a1 := hfs.1
            rw [List.length_cons] at a1
            have a4 := H.out
            rw [List.length_map]; omega
          have hn2 : ∀ y ∈ rs.map mk, y.size ≤ 140737488351232 := by
            intro y hy
            obtain ⟨z, hz, rfl⟩ := List.mem_map.1 hy
            have a1 := hfs.2 z (List.mem_cons_of_mem _ hz)
            rw [List.length_nil] at a1
            have a4 := H.out
            rw [mk_size]; omega
          have hn3 : ∀ y ∈ rs.map mk, y.data.toList ≠ [] := by
            intro y hy
            obtain ⟨z, hz, rfl⟩ := List.mem_map.1 hy
            rw [mk_data]
            exact fieldsGo_ne _ _ z (by rw [hf]; exact List.mem_cons_of_mem _ hz)
          have hid : ((mk v).data.toList :: (rs.map mk).map (·.data.toList)) = v :: rs := by simp [Function.comp_def, mk_data]
          have HID := Lib.hid hid
          have HN1 := Lib.hid hn1
          have HN2 := Lib.hid hn2
          have HN3 := Lib.hid hn3
          have HWS := Lib.hid (show (wordsOf (seg s.data.toList fr k)).map mk = List.map mk (v :: rs) by rw [hws])
          have HWE := Lib.hid hws
          obtain ⟨L, hL⟩ : ∃ L, (List.map mk (v :: rs)).length = L := ⟨_, rfl⟩
          have hL0 : 0 < L := by rw [← hL]; simp
          have HL := Lib.hid hL
          have hws8 : w.heap.size ≤ wr.heap.size := HBL.out.size
          have hli : (cs.length + 1) * 96 ≤ 140737488355328 := by have := HPP.out.many; omega
          have HLI := Lib.hid hli
          clear hf hfs hnc hsg hlen hn1 hn2 hn3 hid hws hL hli
          rcases hrc : readCmd (v :: rs) with _ | c
          · have HRC := Lib.hid hrc
            clear hrc
            go_wp2_with (first
              | (go_at_call 23; refine (HW.out _).mono ?_; rintro e w1 ⟨u, rfl, hR1, hb1⟩; rw [HWS.out] at hR1; obtain ⟨g, q3, rfl, hg, hg2, _⟩ := Kd.R_form hR1 (by simp); have hcm := read_any g 0 q3 (mk v) (rs.map mk) w1 (Kd.R_reads' hR1).2.2 (Kd.R_reads' hR1).2.1 HN1.out HN2.out HN3.out; rw [show (mk v :: List.map mk rs).length = L from HL.out, HID.out] at hcm; have HR1 := Lib.hid hR1; rw [HL.out]; dsimp only; have HCM := Lib.hid hcm; have HB1 := Lib.hid hb1; have hsz1 := hb1.size; clear hb1 hR1 hcm)
              | (go_at_call 24; refine HCM.out.mono ?_; rw [HRC.out]; rintro e w2 ⟨hb2, lb, vb, A1, n1, d1, A2, n2, d2, A3, n3, d3, rfl⟩; dsimp only; have HB2 := Lib.hid hb2; clear hb2))
            go_ret3
            have hb := (HBL.out.trans (HB1.out.mono HBL.out.size)).trans (HB2.out.mono (by omega))
            refine ⟨hb.alloc (by have := HB2.out.size; omega) _, ?_⟩
            have hcut := HPP.out.cut HKL.out HNLc.out
            rw [if_neg (by have := H.out; omega), hcut, HPP.out.rel, parseLines_app, HWE.out]
            simp only [HRC.out]
            rfl
          · have HRC := Lib.hid hrc
            clear hrc
            go_wp2_with (first
              | (go_at_call 23; refine (HW.out _).mono ?_; rintro e w1 ⟨u, rfl, hR1, hb1⟩; rw [HWS.out] at hR1; obtain ⟨g, q3, rfl, hg, hg2, _⟩ := Kd.R_form hR1 (by simp); have hcm := read_any g 0 q3 (mk v) (rs.map mk) w1 (Kd.R_reads' hR1).2.2 (Kd.R_reads' hR1).2.1 HN1.out HN2.out HN3.out; rw [show (mk v :: List.map mk rs).length = L from HL.out, HID.out] at hcm; have HR1 := Lib.hid hR1; rw [HL.out]; dsimp only; have HCM := Lib.hid hcm; have HB1 := Lib.hid hb1; have hsz1 := hb1.size; clear hb1 hR1 hcm)
              | (go_at_call 24; refine HCM.out.mono ?_; rw [HRC.out]; rintro e w2 ⟨hb2, A1, n1, d1, A2, n2, d2, A3, n3, d3, rfl, hwin, hr2, hr3⟩; dsimp only; have hM := ref_far (w := w) (W1 := w2.alloc (Obj.cells #[Value.int IntKind.i64 ((pre.length : Int) + 1), Value.string (mk c.verb), Value.slice A1 n1 d1, Value.slice A2 n2 d2, Value.slice A3 n3 d3] 38)) (Bz := wr.heap.size) (Bz1 := w1.heap.size) (ws := List.map mk (v :: rs)) (c := { c with line := (pre.length : Int) + 1 }) (og := vo.ownBlock) hws8 hsz1 (Kd.R_alloc (Kd.R_below HR1.out hb2) _) hwin (Kd.R_alloc hr2 _) (Kd.R_alloc hr3 _) (fun b e => Kd.R_lt HR.out b e); have hro := Kd.R_alloc (Kd.R_below (Kd.R_below HR.out HB1.out) hb2) (Obj.cells #[Value.int IntKind.i64 ((pre.length : Int) + 1), Value.string (mk c.verb), Value.slice A1 n1 d1, Value.slice A2 n2 d2, Value.slice A3 n3 d3] 38); have hsz2 := hb2.size; have HMM := Lib.hid hM; have HRO := Lib.hid hro; have HB2 := Lib.hid hb2; clear hb2 hM hro hr2 hr3 hwin)
              | (at_builtin; refine Kd.R_append kdRef (w0 := w2.alloc (Obj.cells #[Value.int IntKind.i64 ((pre.length : Int) + 1), Value.string (mk c.verb), Value.slice A1 n1 d1, Value.slice A2 n2 d2, Value.slice A3 n3 d3] 38)) w.heap.size rfl (.tmp 53) (.tmp 55) 28 38 (.agg #[.int .i64 0, .string ⟨#[]⟩, .slice none 0 0, .slice none 0 0, .slice none 0 0]) 96 rfl Tryz.underlying28 info38 rfl (by decide) (by omega) vo cs { c with line := (pre.length : Int) + 1 } [Value.int IntKind.i64 ((pre.length : Int) + 1), Value.string (mk c.verb), Value.slice A1 n1 d1, Value.slice A2 n2 d2, Value.slice A3 n3 d3] (fun _ => True) (fun k => True ∧ some k ≠ vo.ownBlock) rfl ?aX ?aP (fun _ hk => hk) ?aF ?aO ?aB ?aS ?aL ?_; (case aX => (simp only [World.size_alloc]; rfl)); (case aP => exact HMM.out); (case aF => exact (fun _ _ => trivial)); (case aO => exact HRO.out); (case aB => exact Below.refl _ _); (case aS => ((try simp only [World.size_alloc]); omega)); (case aL => exact HLI.out); intro v1 w5 ho hb5 hg5 hat; obtain ⟨A9, q9, rfl⟩ := Kd.R_slice ho; have HO := Lib.hid ho; have HG5 := Lib.hid hg5; clear ho hb5 hg5 hat))
            go_roundw
            case rel =>
              refine ⟨k + 1, k + 1, pre.length + 1, _, by omega, rfl, by go_num, by go_num, by go_num, pre ++ [seg s.data.toList fr k], cs ++ [{ c with line := (pre.length : Int) + 1 }], by simp, ?_, ?_, ?_⟩
              · exact HPP.out.next HKL.out HNLc.out (by simp) (fun rest => by
                  rw [parseLines_app, HWE.out]
                  simp only [HRC.out])
              · have h := HO.out
                rw [List.length_append] at h
                exact h
              · have hb := ((HBL.out.trans (HB1.out.mono HBL.out.size)).trans (HB2.out.mono (by omega))).alloc (show w.heap.size ≤ w2.heap.size by omega) (Obj.cells #[Value.int IntKind.i64 ((pre.length : Int) + 1), Value.string (mk c.verb), Value.slice A1 n1 d1, Value.slice A2 n2 d2, Value.slice A3 n3 d3] 38)
                exact hb.grown HG5.out hb.size (fun j e => Kd.R_base HR.out j e)
            case measure => simp [intOf]; omega

    · have hfin := HPP.out.done (by have := HSS.out; omega)
      have hrel := HPP.out.rel []
      rw [List.append_nil, ← hfin] at hrel
      have HFI := Lib.hid hrel
      obtain ⟨A9, q9, rfl⟩ := Kd.R_slice HR.out
      clear hfin hrel
      go_wp2
      go_ret3
      refine ⟨HBL.out, ?_⟩
      rw [if_neg (by have := H.out; omega), HFI.out]
      exact ⟨A9, q9, rfl, (Kd.R_reads' HR.out).2.1, kdRef_C (Kd.R_reads' HR.out).2.2, fun hp => by obtain ⟨g, cap, e, _⟩ := Kd.R_form HR.out hp; cases e; exact ⟨g, rfl⟩⟩
/-- The document's Parse. -/
theorem refparse_any (s : ByteArray) (w : World) : Calls Tryz.prog 8 #[.string s] w (RefPost w s) := by
  by_cases h : 65536 < s.size
  · exact refparse_long s w h
  · exact refparse_full s w (by omega)
end Go.Proofs.YtfiacgkhkonilaaGreatDoor

namespace Go.Proofs.YtfiacgkhkonilaaGreatDoor
open Go Go.RowKit Go.Extern.Stop Go.Stop Go.Extern

/-- errors.As(nil, target). -/
theorem as_nil (t : Value) (w : World) :
    Calls Tryz.prog 25 #[.nilIface, t] w fun e w' => e = .returned (.bool false) ∧ w' = w := by
  go_enter Tryz.func25, Tryz.ntmps25
  go_wp2
  go_ret
  exact ⟨rfl, rfl⟩

/-! ### CLOSED FACTS ON THE MODEL's ENTRIES FOR internal/reflectlite, at this program's types: 25: *p.E · 27: **p.E · 23: error · 45: reflectlite's rtype · 1: how many package-level variables the dump has -/
theorem Asx.valueOf27 (t : Addr) (w : World) : (ReflectliteValue.unpack (.iface 61 (.pointer (some t)))).run Tryz.prog w
    = .ok (.agg #[.pointer (some ⟨9, 61, none⟩), .pointer (some ⟨w.heap.size, 0, none⟩), .int .u64 150]) (w.alloc (.cells #[.pointer (some t)] 61)) := by kernel_rfl
theorem Asx.type27 (a : Addr) (w : World) : (ReflectliteValue.methodAny (ReflectliteValue.valueError "reflectlite.Value.Type" 0) (fun t _ _ _ => ReflectliteType.toType t) #[.agg #[.pointer (some ⟨9, 61, none⟩), .pointer (some a), .int .u64 150]]).run Tryz.prog w
    = .ok (.iface 116 (.agg #[.pointer (some ⟨9, 61, none⟩)])) w := by kernel_rfl
theorem Asx.methodKind (h : Value) (w : World) : (Go.method 308 116 (.agg #[h]) "Kind").run Tryz.prog w = .ok (129, h) w := by kernel_rfl
theorem Asx.kind27 (w : World) : ((ReflectliteType.abiMethod fun t => (fun a : Nat => Value.int IntKind.u8 (a : Int)) <$> Rtype.kind t) #[.pointer (some ⟨9, 61, none⟩)]).run Tryz.prog w = .ok (.int .u8 22) w := by kernel_rfl
theorem Asx.kind25 (w : World) : ((ReflectliteType.abiMethod fun t => (fun a : Nat => Value.int IntKind.u8 (a : Int)) <$> Rtype.kind t) #[.pointer (some ⟨9, 47, none⟩)]).run Tryz.prog w = .ok (.int .u8 2) w := by kernel_rfl

/-! ### THE ENTRIES THAT READ OR WRITE MEMORY: laws with a premise on the cell (after Derived/Lib/ReflectliteSlice.lean's manner: each unfolding a lemma of its own, by rfl) -/
theorem rlm (z : Sem Value) (f : TypeId → Addr → Nat → Nat → Sem Value) (v : Value) :
    ReflectliteValue.method z f #[v] = (do match ← ReflectliteValue.parts v with | none => z | some (t, a, fl) => f t a fl (fl % 32)) := rfl
theorem Asx.parts27 (a : Addr) (w : World) : (ReflectliteValue.parts (.agg #[.pointer (some ⟨9, 61, none⟩), .pointer (some a), .int .u64 150])).run Tryz.prog w = .ok (some (61, a, 150)) w := by kernel_rfl
/-- (Value).IsNil at the Value of a **p.E that is not nil. -/
theorem Asx.isNil27 (a p : Addr) (W : World) (ha : W.cell? a = some (.pointer (some p))) :
    (ReflectliteValue.method (ReflectliteValue.valueError "reflectlite.Value.IsNil" 0) ReflectliteValue.isNil #[.agg #[.pointer (some ⟨9, 61, none⟩), .pointer (some a), .int .u64 150]]).run Tryz.prog W = .ok (.bool false) W := by
  rw [rlm]
  simp only [Sem.run_bind, Asx.parts27, Result.andThen]
  simp [ReflectliteValue.isNil, loadVar, isAgg, underlying, Tryz.underlying61, ha, Result.andThen]

theorem Asx.methodElem (h : Value) (w : World) : (Go.method 308 116 (.agg #[h]) "Elem").run Tryz.prog w = .ok (140, .agg #[h]) w := by kernel_rfl
theorem Asx.methodImplements (h : Value) (w : World) : (Go.method 308 116 (.agg #[h]) "Implements").run Tryz.prog w = .ok (141, .agg #[h]) w := by kernel_rfl
theorem Asx.methodAssignableTo (h : Value) (w : World) : (Go.method 308 116 (.agg #[h]) "AssignableTo").run Tryz.prog w = .ok (138, .agg #[h]) w := by kernel_rfl
theorem Asx.elem27 (w : World) : (ReflectliteType.method ReflectliteType.elem #[.agg #[.pointer (some ⟨9, 61, none⟩)]]).run Tryz.prog w = .ok (.iface 116 (.agg #[.pointer (some ⟨9, 47, none⟩)])) w := by kernel_rfl
theorem Asx.implements25 (w : World) : (ReflectliteType.relation "Implements" ReflectliteType.implements_ #[.agg #[.pointer (some ⟨9, 47, none⟩)], .iface 116 (.agg #[.pointer (some ⟨9, 25, none⟩)])]).run Tryz.prog w = .ok (.bool true) w := by kernel_rfl
theorem Asx.typeOf25 (v : Value) (w : World) : (ReflectliteType.typeOf #[.iface 47 v]).run Tryz.prog w = .ok (.iface 116 (.agg #[.pointer (some ⟨9, 47, none⟩)])) w := by kernel_rfl
theorem Asx.assignable25 (w : World) : (ReflectliteType.relation "AssignableTo" ReflectliteType.assignableTo #[.agg #[.pointer (some ⟨9, 47, none⟩)], .iface 116 (.agg #[.pointer (some ⟨9, 47, none⟩)])]).run Tryz.prog w = .ok (.bool true) w := by kernel_rfl
theorem Asx.valueOf25 (e : Int) (w : World) : (ReflectliteValue.unpack (.iface 47 (.int .i64 e))).run Tryz.prog w
    = .ok (.agg #[.pointer (some ⟨9, 47, none⟩), .pointer (some ⟨w.heap.size, 0, none⟩), .int .u64 130]) (w.alloc (.cells #[.int .i64 e] 47)) := by kernel_rfl

theorem Asx.elemOf27 (w : World) : (Rtype.elem? 61).run Tryz.prog w = .ok (some 47) w := by kernel_rfl
theorem Asx.mk25 (p : Addr) (w : World) : (ReflectliteValue.mk 47 p ReflectliteValue.flagAddr).run Tryz.prog w = .ok (.agg #[.pointer (some ⟨9, 47, none⟩), .pointer (some p), .int .u64 386]) w := by kernel_rfl
/-- (Value).Elem at the Value of a **p.E that is not nil: the Value of the *p.E variable that it points to, addressable. -/
theorem Asx.elemV27 (a p : Addr) (W : World) (ha : W.cell? a = some (.pointer (some p))) :
    (ReflectliteValue.method (ReflectliteValue.valueError "reflectlite.Value.Elem" 0) ReflectliteValue.elem #[.agg #[.pointer (some ⟨9, 61, none⟩), .pointer (some a), .int .u64 150]]).run Tryz.prog W
      = .ok (.agg #[.pointer (some ⟨9, 47, none⟩), .pointer (some p), .int .u64 386]) W := by
  rw [rlm]
  simp only [Sem.run_bind, Asx.parts27, Result.andThen]
  simp [ReflectliteValue.elem, loadVar, isAgg, underlying, Tryz.underlying61, ha, Result.andThen, Asx.elemOf27, Asx.mk25]
theorem rls (v x : Value) : ReflectliteValue.set #[v, x] = (do
    let (some (dst, a, fl), some (src, b, _)) := (← ReflectliteValue.parts v, ← ReflectliteValue.parts x)
      | unsupported (.noEntry "extern/(internal/reflectlite.Value).Set.zeroValue")
    if fl / ReflectliteValue.flagAddr % 2 == 0 then unsupported (.noEntry "extern/(internal/reflectlite.Value).Set.unaddressable")
    let val ← loadVar src b
    if ← Rtype.directlyAssignable dst src then storeVar dst a val
    else if ← Rtype.implements dst src then
      if (← Rtype.kind src) == 20 then
        match val with
        | .nilIface => unsupported (.noEntry "extern/reflectlite: a nil value of one interface type handed on as a value of another")
        | _ => storeVar dst a val
      else storeVar dst a (.iface src val)
    else panicString ("reflectlite.Set: value of type " ++ (← Rtype.spelt src) ++ " is not assignable to type " ++ (← Rtype.spelt dst))
    pure (.tuple #[])) := rfl
theorem Asx.parts25a (a : Addr) (w : World) : (ReflectliteValue.parts (.agg #[.pointer (some ⟨9, 47, none⟩), .pointer (some a), .int .u64 386])).run Tryz.prog w = .ok (some (47, a, 386)) w := by kernel_rfl
theorem Asx.parts25 (a : Addr) (w : World) : (ReflectliteValue.parts (.agg #[.pointer (some ⟨9, 47, none⟩), .pointer (some a), .int .u64 130])).run Tryz.prog w = .ok (some (47, a, 130)) w := by kernel_rfl
theorem Asx.direct25 (w : World) : (Rtype.directlyAssignable 47 47).run Tryz.prog w = .ok true w := by kernel_rfl
theorem Asx.size25 (w : World) : (sizeOf 47).run Tryz.prog w = .ok 1 w := by kernel_rfl
/-- (Value).Set: the *p.E variable at 'ta' gets what the Value's own variable 'b' holds. -/
theorem Asx.set25 (ta b : Addr) (e : Int) (old : Value) (W : World) (hb : W.cell? b = some (.int .i64 e)) (ht : W.cell? ta = some old) (hf : W.frozen? ta = false) :
    (ReflectliteValue.set #[.agg #[.pointer (some ⟨9, 47, none⟩), .pointer (some ta), .int .u64 386], .agg #[.pointer (some ⟨9, 47, none⟩), .pointer (some b), .int .u64 130]]).run Tryz.prog W
      = .ok (.tuple #[]) (W.setCell ta (.int .i64 e)) := by
  rw [rls]
  simp only [Sem.run_bind, Asx.parts25a, Asx.parts25, Result.andThen]
  simp [ReflectliteValue.flagAddr, loadVar, isAgg, underlying, Tryz.underlying47, hb, Result.andThen, Asx.direct25, storeVar, Value.cells, storeCells, Addr.add]
  rw [run_store Tryz.prog W ta _ _ (by rfl)]
  simp [ht, hf]

set_option maxRecDepth 100000 in
set_option maxHeartbeats 4000000 in
theorem as_hit (e : Int) (t : Addr) (old : Value) (w : World) (hg : w.cell? ⟨0, 0, none⟩ = some (.iface 116 (.agg #[.pointer (some ⟨9, 25, none⟩)]))) (ht0 : w.cell? t = some old) (hf0 : w.frozen? t = false) :
    Calls Tryz.prog 25 #[.iface 47 (.int .i64 e), .iface 61 (.pointer (some t))] w fun ev w' => ev = .returned (.bool true) ∧ w' = ((((w.alloc (.cells #[.pointer (some t)] 61)).alloc (.cells #[.pointer (some ⟨9, 61, none⟩), .pointer (some ⟨w.heap.size, 0, none⟩), .int .u64 150] 88)).alloc (.cells #[.pointer (some ⟨9, 61, none⟩), .pointer (some ⟨w.heap.size, 0, none⟩), .int .u64 150] 88)).alloc (.cells #[.int .i64 e] 47)).setCell t (.int .i64 e) := by
  have h6 := @run_callFunc_extern Tryz.prog 44 _ (fun args => ReflectliteValue.unpack (args.getD 0 (.tuple #[]))) Tryz.func44 (by kernel_rfl) (by kernel_rfl) (by kernel_rfl) (by kernel_rfl)
  have h7 := @run_callFunc_extern Tryz.prog 45 _ (ReflectliteValue.methodAny (ReflectliteValue.valueError "reflectlite.Value.Type" 0) (fun t _ _ _ => ReflectliteType.toType t)) Tryz.func45 (by kernel_rfl) (by kernel_rfl) (by kernel_rfl) (by kernel_rfl)
  have h8 := @run_callFunc_extern Tryz.prog 46 _ (ReflectliteValue.method (ReflectliteValue.valueError "reflectlite.Value.IsNil" 0) ReflectliteValue.isNil) Tryz.func46 (by kernel_rfl) (by kernel_rfl) (by kernel_rfl) (by kernel_rfl)
  have h27 := @run_callFunc_extern Tryz.prog 129 _ (ReflectliteType.abiMethod fun t => do pure (.int .u8 (← Rtype.kind t))) Tryz.func129 (by kernel_rfl) (by kernel_rfl) (by kernel_rfl) (by kernel_rfl)
  have h37 := @run_callFunc_extern Tryz.prog 140 _ (ReflectliteType.method ReflectliteType.elem) Tryz.func140 (by kernel_rfl) (by kernel_rfl) (by kernel_rfl) (by kernel_rfl)
  have h38 := @run_callFunc_extern Tryz.prog 141 _ (ReflectliteType.relation "Implements" ReflectliteType.implements_) Tryz.func141 (by kernel_rfl) (by kernel_rfl) (by kernel_rfl) (by kernel_rfl)
  have h10 := @run_callFunc_extern Tryz.prog 60 _ ReflectliteType.typeOf Tryz.func60 (by kernel_rfl) (by kernel_rfl) (by kernel_rfl) (by kernel_rfl)
  have h35 := @run_callFunc_extern Tryz.prog 138 _ (ReflectliteType.relation "AssignableTo" ReflectliteType.assignableTo) Tryz.func138 (by kernel_rfl) (by kernel_rfl) (by kernel_rfl) (by kernel_rfl)
  have h11 := @run_callFunc_extern Tryz.prog 61 _ (ReflectliteValue.method (ReflectliteValue.valueError "reflectlite.Value.Elem" 0) ReflectliteValue.elem) Tryz.func61 (by kernel_rfl) (by kernel_rfl) (by kernel_rfl) (by kernel_rfl)
  have h12 := @run_callFunc_extern Tryz.prog 62 _ ReflectliteValue.set Tryz.func62 (by kernel_rfl) (by kernel_rfl) (by kernel_rfl) (by kernel_rfl)
  have tO := Asx.typeOf25
  have mA := Asx.methodAssignableTo
  have a25 := Asx.assignable25
  have v25 := Asx.valueOf25
  have f6 := Asx.valueOf27
  have f7 := Asx.type27
  have mK := Asx.methodKind
  have mE := Asx.methodElem
  have mI := Asx.methodImplements
  have k27 := Asx.kind27
  have k25 := Asx.kind25
  have e27 := Asx.elem27
  have i25 := Asx.implements25
  have n8 := Asx.isNil27 ⟨w.heap.size, 0, none⟩ t ((w.alloc (.cells #[.pointer (some t)] 61)).alloc (.cells #[.pointer (some ⟨9, 61, none⟩), .pointer (some ⟨w.heap.size, 0, none⟩), .int .u64 150] 88)) (by simp)
  have hlt : 0 < w.heap.size := by
    rcases Nat.eq_zero_or_pos w.heap.size with h0 | h
    · simp [World.cell?, h0] at hg
    · exact h
  have hg2 : ((w.alloc (.cells #[.pointer (some t)] 61)).alloc (.cells #[.pointer (some ⟨9, 61, none⟩), .pointer (some ⟨w.heap.size, 0, none⟩), .int .u64 150] 88)).cell? ⟨0, 0, none⟩ = some (.iface 116 (.agg #[.pointer (some ⟨9, 25, none⟩)])) := by
    rw [World.cell?_alloc_lt _ _ ⟨0, 0, none⟩ (by simp), World.cell?_alloc_lt _ _ ⟨0, 0, none⟩ hlt]; exact hg
  have htl : t.block < w.heap.size := by
    rcases Nat.lt_or_ge t.block w.heap.size with h | h
    · exact h
    · simp [World.cell?, Array.getElem?_eq_none h] at ht0
  have el := Asx.elemV27 ⟨w.heap.size, 0, none⟩ t (((w.alloc (.cells #[.pointer (some t)] 61)).alloc (.cells #[.pointer (some ⟨9, 61, none⟩), .pointer (some ⟨w.heap.size, 0, none⟩), .int .u64 150] 88)).alloc (.cells #[.pointer (some ⟨9, 61, none⟩), .pointer (some ⟨w.heap.size, 0, none⟩), .int .u64 150] 88)) (by rw [World.cell?_alloc_lt _ _ ⟨w.heap.size, 0, none⟩ (by simp; omega)]; simp)
  have st := Asx.set25 t ⟨w.heap.size + 1 + 1 + 1, 0, none⟩ e old ((((w.alloc (.cells #[.pointer (some t)] 61)).alloc (.cells #[.pointer (some ⟨9, 61, none⟩), .pointer (some ⟨w.heap.size, 0, none⟩), .int .u64 150] 88)).alloc (.cells #[.pointer (some ⟨9, 61, none⟩), .pointer (some ⟨w.heap.size, 0, none⟩), .int .u64 150] 88)).alloc (.cells #[.int .i64 e] 47))
    (by rw [World.cell?_alloc_at _ _ _ _ (by simp)]; rfl)
    (by rw [World.cell?_alloc_lt _ _ t (by simp; omega), World.cell?_alloc_lt _ _ t (by simp; omega), World.cell?_alloc_lt _ _ t (by simp; omega), World.cell?_alloc_lt _ _ t htl]; exact ht0)
    (by rw [World.frozen?_alloc_old _ _ t (by simp; omega), World.frozen?_alloc_old _ _ t (by simp; omega), World.frozen?_alloc_old _ _ t (by simp; omega), World.frozen?_alloc_old _ _ t (Nat.ne_of_lt htl)]; exact hf0)
  go_enter Tryz.func25, Tryz.ntmps25
  go_wp2
  refine wp_loop_rounds 1 ?_
  rw [rounds_succ]
  go_wp2
  go_ret
  exact ⟨rfl, rfl⟩
end Go.Proofs.YtfiacgkhkonilaaGreatDoor

/- The walk of num: an error's number. -/
namespace Go.Proofs.YtfiacgkhkonilaaGreatDoor
open Go Go.RowKit Go.Proofs.YtfiacgkhkonilaaGreatDoorW.PrintWords Go.Proofs.YtfiacgkhkonilaaGreatDoorW.PrintLast Go.Proofs.YtfiacgkhkonilaaGreatDoorW.PrintMore

set_option maxRecDepth 100000 in
theorem num_nil (w : World) : Calls Tryz.prog 9 #[.nilIface] w fun e w' => e = .returned (.int .i64 0) ∧ Below w.heap.size w w' := by
  go_enter Tryz.func9, Tryz.ntmps9
  go_wp2
  go_ret
  exact ⟨rfl, (Below.refl _ w).alloc (Nat.le_refl _) _⟩

theorem as_errno (k : Int) (t : Nat) (w : World) (he : Env w) (ht : w.heap[t]? = some (.cells #[.int .i64 0] 47 (0, 0))) :
    Calls Tryz.prog 25 #[.iface 47 (.int .i64 k), .iface 61 (.pointer (some ⟨t, 0, none⟩))] w fun e w' => e = .returned (.bool true) ∧ w'.heap[t]? = some (.cells #[.int .i64 k] 47 (0, 0)) ∧ Below t w w' := by
  have hlt : t < w.heap.size := (Array.getElem?_eq_some_iff.1 ht).1
  refine (as_hit k ⟨t, 0, none⟩ (.int .i64 0) w he.typ (blk_cell ht 0) (blk_frozen ht 0)).mono ?_
  rintro e w' ⟨rfl, rfl⟩
  refine ⟨rfl, ?_, ?_⟩
  · exact blk_set (up _ (up _ (up _ (up _ ht)))) 0 _
  · exact (((((Below.refl t w).alloc (by omega) _).alloc (by simp; omega) _).alloc (by simp; omega) _).alloc (by simp; omega) _).setCell (Nat.le_refl _) _

set_option maxRecDepth 100000 in
theorem num_errno (k : Int) (w : World) (he : Env w) : Calls Tryz.prog 9 #[.iface 47 (.int .i64 k)] w fun e w' => e = .returned (.int .i64 k) ∧ Below w.heap.size w w' := by
  have hW : Env (w.alloc (.cells #[.int .i64 0] 47)) := he.below ((Below.refl _ w).alloc (Nat.le_refl _) _)
  have HA := Lib.hid (as_errno k w.heap.size (w.alloc (.cells #[.int .i64 0] 47)) hW (fresh w _ rfl))
  clear hW
  go_enter Tryz.func9, Tryz.ntmps9
  go_wp2_with (go_at_call 25; refine HA.out.mono ?_; rintro e w1 ⟨rfl, hc, hb⟩; have c0 : w1.cell? ⟨w.heap.size, 0, none⟩ = some (.int .i64 k) := blk_cell hc 0)
  go_ret
  exact ⟨rfl, ((Below.refl _ w).alloc (Nat.le_refl _) _).trans hb⟩
end Go.Proofs.YtfiacgkhkonilaaGreatDoor
