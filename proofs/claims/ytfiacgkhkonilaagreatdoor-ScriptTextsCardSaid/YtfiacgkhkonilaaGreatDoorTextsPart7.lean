/- Part 7 of a proof: ReadNamed, ReadBytes -/
import Derived.Test.YtfiacgkhkonilaaGreatDoorTextsPart6
/- The walk of the document's Read, behind names. -/
namespace Go.Proofs.YtfiacgkhkonilaaGreatDoor
open Go Go.RowKit Go.Shelf Go.Proofs.YtfiacgkhkonilaaGreatDoorW.PrintWords Go.Proofs.YtfiacgkhkonilaaGreatDoorW.PrintLast Go.Proofs.YtfiacgkhkonilaaGreatDoorW.PrintMore

set_option maxRecDepth 100000 in
set_option maxHeartbeats 1000000 in
theorem read_set_none (b off cap : Nat) (v : ByteArray) (rs : List ByteArray) (w : World) (hC : Kd.string.C w (some ⟨b, off, none⟩) (v :: rs).length (v :: rs)) (hcap : (v :: rs).length ≤ cap)
    (hbad : rs = [] ∨ ∃ x r, rs = x :: r ∧ isName x.data.toList = false)
    (hv : v.data.toList = vSet) (hl : rs.length < 4294967295) :
    Calls Tryz.prog 24 #[.slice (some ⟨b, off, none⟩) (v :: rs).length cap] w (ReadPost w (some ⟨b, off, none⟩) (v :: rs) (readRef (v.data.toList :: rs.map (·.data.toList)))) := by
  obtain ⟨ad, e0, c0⟩ := Kd.at_string hC 0 (by omega) (by simp)
  cases e0
  have hlt : b < w.heap.size := World.block_lt_of_cell? w _ c0
  have c0' : w.cell? ⟨b, off, none⟩ = some (.string v) := c0
  obtain ⟨A', hcut, hcutC, hcutB⟩ := cutS' (v :: rs) b off cap 1 (by simp) hcap
  have hcut1 : ∀ W : World, (Instr.slice 33 (.slice (some ⟨b, off, none⟩) (v :: rs).length cap) (some (.int .i64 1)) none none).run Tryz.prog W = .ok (.slice A' ((v :: rs).length - 1) (cap - 1)) W := hcut
  have hlr : (v :: rs).length - 1 = rs.length := by simp
  rw [hlr] at hcut1
  have hl1 : (0 : Int) < ((v :: rs).length : Int) := by simp
  have hl2 : (1 : Int) ≤ ((v :: rs).length : Int) := by simp; omega
  have hvv : v.toList = vSet := by rw [Lib.toList_data]; exact hv
  have t_set : (v.toList == ([115, 101, 116] : List UInt8)) = true := by rw [hvv]; rfl
  have t_raw : (v.toList == ([114, 97, 119] : List UInt8)) = false := by rw [hvv]; rfl
  have t_config : (v.toList == ([99, 111, 110, 102, 105, 103] : List UInt8)) = false := by rw [hvv]; rfl
  have hna : namedRef v.data.toList = true := by rw [hv]; rfl
  have hby : bytesRef v.data.toList = false := by rw [hv]; rfl
  have hrc0 : ∀ W : World, Kd.string.C W (some ⟨b, off, none⟩) (v :: rs).length (v :: rs) → Kd.string.C W A' rs.length rs := hcutC
  have HNA := Lib.hid hna
  have HBY := Lib.hid hby
  have HC := Lib.hid hC
  have HR0 := Lib.hid hrc0
  rcases hbad with rfl | ⟨x, r, rfl, hx⟩
  · have h0 : ([] : List ByteArray).length = 0 := rfl
    rw [h0] at hcut1
    have hro : readRef [v.data.toList] = none := by
      rw [readRef_cons, if_pos HNA.out]
    have HRO := Lib.hid hro
    have HPO := Lib.hid (rfl : (v :: ([] : List ByteArray)).length = (v :: ([] : List ByteArray)).length)
    generalize hlen : (v :: ([] : List ByteArray)).length = len at hcut1 hl1 hl2 ⊢
    clear c0 hC hcut hcutC hcutB hlr hna hby hrc0 hcap hvv hv hlen hro
    go_enter Tryz.func24, Tryz.ntmps24
    go_wp2
    refine bodyPost_ret (results24 _ _ w.heap.size _ _ _ _ _ _ rfl rfl (up _ (fresh w _ rfl))) rfl ?_
    rw [HRO.out]
    exact ⟨((Below.refl _ w).alloc (Nat.le_refl _) _).alloc (by simp) _, _, _, _, _, _, _, _, _, _, _, _, rfl⟩
  · obtain ⟨ad, rfl, hcell⟩ := Kd.at_string (hrc0 w hC) 0 (by omega) (by simp)
    have hcell1 : w.cell? ad = some (.string x) := by cases ad; exact hcell
    have hadl : ad.block < w.heap.size := World.block_lt_of_cell? w ad hcell1
    have hcw : ∀ o o2 : Obj, ((w.alloc o).alloc o2).cell? ad = some (.string x) := fun o o2 => (World.cell?_alloc_lt _ o2 ad (by rw [World.size_alloc]; omega)).trans ((World.cell?_alloc_lt w o ad hadl).trans hcell1)
    have hnm := fun W => ref_name x W
    rw [hx] at hnm
    have HNM := Lib.hid (hnm ((w.alloc (.cells #[.int .i64 0, .string ⟨#[]⟩, .slice none 0 0, .slice none 0 0, .slice none 0 0] 38)).alloc (.cells #[.int .i64 0, .string v, .slice none 0 0, .slice none 0 0, .slice none 0 0] 38)))
    have hro : readRef (v.data.toList :: (x :: r).map (·.data.toList)) = none := by
      rw [readRef_cons, if_pos HNA.out]
      show (if isName x.data.toList = true then restRef v.data.toList [x.data.toList] (r.map (·.data.toList)) else none) = none
      rw [hx]; rfl
    have HRO := Lib.hid hro
    have hr0 : (0 : Int) < ((x :: r).length : Int) := by simp
    have hr1 : (((x :: r).length : Nat) : Int) ≠ 0 := by simp; omega
    generalize hlen : (v :: x :: r).length = len at hcut1 hl1 hl2 ⊢
    generalize (x :: r).length = len1 at hcut1 hr0 hr1 hl
    clear c0 hC hcut hcutC hcutB hlr hna hby hrc0 hcap hvv hv hlen hro hcell hcell1 hnm hx
    go_enter Tryz.func24, Tryz.ntmps24
    go_wp2_with (go_at_call 32; go_loud (refine HNM.out.mono ?_; rintro e w1 ⟨rfl, hd0⟩; dsimp only; have hd1 := drawn_below hd0; have hk0 := (hd1.block w.heap.size (by simp <;> omega)).trans (up (.cells #[.int .i64 0, .string v, .slice none 0 0, .slice none 0 0, .slice none 0 0] 38) (fresh w (.cells #[.int .i64 0, .string ⟨#[]⟩, .slice none 0 0, .slice none 0 0, .slice none 0 0] 38) rfl)); have hk1 := (hd1.block (w.heap.size + 1) (by simp <;> omega)).trans (fresh (w.alloc (.cells #[.int .i64 0, .string ⟨#[]⟩, .slice none 0 0, .slice none 0 0, .slice none 0 0] 38)) (.cells #[.int .i64 0, .string v, .slice none 0 0, .slice none 0 0, .slice none 0 0] 38) (by simp)); have hB1 : Below w.heap.size w w1 := (((Below.refl _ w).alloc (Nat.le_refl _) _).alloc (by simp) _).trans (hd1.mono (by simp <;> omega)); obtain ⟨⟨k0, k1, k2, k3, k4⟩, ⟨f0, f1, f2, f3, f4⟩⟩ := cells38 hk1; obtain ⟨⟨d0, d1, d2, d3, d4⟩, ⟨e0, e1, e2, e3, e4⟩⟩ := cells38 hk0; have hz1 := hd1.size; simp only [World.size_alloc] at hz1; have cv : w1.cell? ⟨b, off, none⟩ = some (.string v) := (hB1.cell (p := ⟨b, off, none⟩) hlt).trans c0'; have HK0 := Lib.hid hk0; have HK1 := Lib.hid hk1; have HB1 := Lib.hid hB1; clear hd0 hd1 hk0 hk1 hB1))
    refine bodyPost_ret (results24 _ _ w.heap.size _ _ _ _ _ _ rfl rfl (set5_heap' HK0.out)) rfl ?_
    rw [HRO.out]
    exact ⟨HB1.out.grown (set5_grown _ w.heap.size _ _ _ _ _) HB1.out.size (fun k e => by cases e; exact Nat.le_refl _), _, _, _, _, _, _, _, _, _, _, _, rfl⟩

set_option maxRecDepth 100000 in
set_option maxHeartbeats 1000000 in
theorem read_count_none (b off cap : Nat) (v : ByteArray) (rs : List ByteArray) (w : World) (hC : Kd.string.C w (some ⟨b, off, none⟩) (v :: rs).length (v :: rs)) (hcap : (v :: rs).length ≤ cap)
    (hbad : rs = [] ∨ ∃ x r, rs = x :: r ∧ isName x.data.toList = false)
    (hv : v.data.toList = vCount) (hl : rs.length < 4294967295) :
    Calls Tryz.prog 24 #[.slice (some ⟨b, off, none⟩) (v :: rs).length cap] w (ReadPost w (some ⟨b, off, none⟩) (v :: rs) (readRef (v.data.toList :: rs.map (·.data.toList)))) := by
  obtain ⟨ad, e0, c0⟩ := Kd.at_string hC 0 (by omega) (by simp)
  cases e0
  have hlt : b < w.heap.size := World.block_lt_of_cell? w _ c0
  have c0' : w.cell? ⟨b, off, none⟩ = some (.string v) := c0
  obtain ⟨A', hcut, hcutC, hcutB⟩ := cutS' (v :: rs) b off cap 1 (by simp) hcap
  have hcut1 : ∀ W : World, (Instr.slice 33 (.slice (some ⟨b, off, none⟩) (v :: rs).length cap) (some (.int .i64 1)) none none).run Tryz.prog W = .ok (.slice A' ((v :: rs).length - 1) (cap - 1)) W := hcut
  have hlr : (v :: rs).length - 1 = rs.length := by simp
  rw [hlr] at hcut1
  have hl1 : (0 : Int) < ((v :: rs).length : Int) := by simp
  have hl2 : (1 : Int) ≤ ((v :: rs).length : Int) := by simp; omega
  have hvv : v.toList = vCount := by rw [Lib.toList_data]; exact hv
  have t_set : (v.toList == ([115, 101, 116] : List UInt8)) = false := by rw [hvv]; rfl
  have t_count : (v.toList == ([99, 111, 117, 110, 116] : List UInt8)) = true := by rw [hvv]; rfl
  have t_raw : (v.toList == ([114, 97, 119] : List UInt8)) = false := by rw [hvv]; rfl
  have t_config : (v.toList == ([99, 111, 110, 102, 105, 103] : List UInt8)) = false := by rw [hvv]; rfl
  have hna : namedRef v.data.toList = true := by rw [hv]; rfl
  have hby : bytesRef v.data.toList = false := by rw [hv]; rfl
  have hrc0 : ∀ W : World, Kd.string.C W (some ⟨b, off, none⟩) (v :: rs).length (v :: rs) → Kd.string.C W A' rs.length rs := hcutC
  have HNA := Lib.hid hna
  have HBY := Lib.hid hby
  have HC := Lib.hid hC
  have HR0 := Lib.hid hrc0
  rcases hbad with rfl | ⟨x, r, rfl, hx⟩
  · have h0 : ([] : List ByteArray).length = 0 := rfl
    rw [h0] at hcut1
    have hro : readRef [v.data.toList] = none := by
      rw [readRef_cons, if_pos HNA.out]
    have HRO := Lib.hid hro
    have HPO := Lib.hid (rfl : (v :: ([] : List ByteArray)).length = (v :: ([] : List ByteArray)).length)
    generalize hlen : (v :: ([] : List ByteArray)).length = len at hcut1 hl1 hl2 ⊢
    clear c0 hC hcut hcutC hcutB hlr hna hby hrc0 hcap hvv hv hlen hro
    go_enter Tryz.func24, Tryz.ntmps24
    go_wp2
    refine bodyPost_ret (results24 _ _ w.heap.size _ _ _ _ _ _ rfl rfl (up _ (fresh w _ rfl))) rfl ?_
    rw [HRO.out]
    exact ⟨((Below.refl _ w).alloc (Nat.le_refl _) _).alloc (by simp) _, _, _, _, _, _, _, _, _, _, _, _, rfl⟩
  · obtain ⟨ad, rfl, hcell⟩ := Kd.at_string (hrc0 w hC) 0 (by omega) (by simp)
    have hcell1 : w.cell? ad = some (.string x) := by cases ad; exact hcell
    have hadl : ad.block < w.heap.size := World.block_lt_of_cell? w ad hcell1
    have hcw : ∀ o o2 : Obj, ((w.alloc o).alloc o2).cell? ad = some (.string x) := fun o o2 => (World.cell?_alloc_lt _ o2 ad (by rw [World.size_alloc]; omega)).trans ((World.cell?_alloc_lt w o ad hadl).trans hcell1)
    have hnm := fun W => ref_name x W
    rw [hx] at hnm
    have HNM := Lib.hid (hnm ((w.alloc (.cells #[.int .i64 0, .string ⟨#[]⟩, .slice none 0 0, .slice none 0 0, .slice none 0 0] 38)).alloc (.cells #[.int .i64 0, .string v, .slice none 0 0, .slice none 0 0, .slice none 0 0] 38)))
    have hro : readRef (v.data.toList :: (x :: r).map (·.data.toList)) = none := by
      rw [readRef_cons, if_pos HNA.out]
      show (if isName x.data.toList = true then restRef v.data.toList [x.data.toList] (r.map (·.data.toList)) else none) = none
      rw [hx]; rfl
    have HRO := Lib.hid hro
    have hr0 : (0 : Int) < ((x :: r).length : Int) := by simp
    have hr1 : (((x :: r).length : Nat) : Int) ≠ 0 := by simp; omega
    generalize hlen : (v :: x :: r).length = len at hcut1 hl1 hl2 ⊢
    generalize (x :: r).length = len1 at hcut1 hr0 hr1 hl
    clear c0 hC hcut hcutC hcutB hlr hna hby hrc0 hcap hvv hv hlen hro hcell hcell1 hnm hx
    go_enter Tryz.func24, Tryz.ntmps24
    go_wp2_with (go_at_call 32; go_loud (refine HNM.out.mono ?_; rintro e w1 ⟨rfl, hd0⟩; dsimp only; have hd1 := drawn_below hd0; have hk0 := (hd1.block w.heap.size (by simp <;> omega)).trans (up (.cells #[.int .i64 0, .string v, .slice none 0 0, .slice none 0 0, .slice none 0 0] 38) (fresh w (.cells #[.int .i64 0, .string ⟨#[]⟩, .slice none 0 0, .slice none 0 0, .slice none 0 0] 38) rfl)); have hk1 := (hd1.block (w.heap.size + 1) (by simp <;> omega)).trans (fresh (w.alloc (.cells #[.int .i64 0, .string ⟨#[]⟩, .slice none 0 0, .slice none 0 0, .slice none 0 0] 38)) (.cells #[.int .i64 0, .string v, .slice none 0 0, .slice none 0 0, .slice none 0 0] 38) (by simp)); have hB1 : Below w.heap.size w w1 := (((Below.refl _ w).alloc (Nat.le_refl _) _).alloc (by simp) _).trans (hd1.mono (by simp <;> omega)); obtain ⟨⟨k0, k1, k2, k3, k4⟩, ⟨f0, f1, f2, f3, f4⟩⟩ := cells38 hk1; obtain ⟨⟨d0, d1, d2, d3, d4⟩, ⟨e0, e1, e2, e3, e4⟩⟩ := cells38 hk0; have hz1 := hd1.size; simp only [World.size_alloc] at hz1; have cv : w1.cell? ⟨b, off, none⟩ = some (.string v) := (hB1.cell (p := ⟨b, off, none⟩) hlt).trans c0'; have HK0 := Lib.hid hk0; have HK1 := Lib.hid hk1; have HB1 := Lib.hid hB1; clear hd0 hd1 hk0 hk1 hB1))
    refine bodyPost_ret (results24 _ _ w.heap.size _ _ _ _ _ _ rfl rfl (set5_heap' HK0.out)) rfl ?_
    rw [HRO.out]
    exact ⟨HB1.out.grown (set5_grown _ w.heap.size _ _ _ _ _) HB1.out.size (fun k e => by cases e; exact Nat.le_refl _), _, _, _, _, _, _, _, _, _, _, _, rfl⟩

set_option maxRecDepth 100000 in
set_option maxHeartbeats 2000000 in
theorem read_set_name (b off cap : Nat) (v nm : ByteArray) (r : List ByteArray) (w : World) (hC : Kd.string.C w (some ⟨b, off, none⟩) (v :: nm :: r).length (v :: nm :: r)) (hcap : (v :: nm :: r).length ≤ cap)
    (hnam : isName nm.data.toList = true) (hv : v.data.toList = vSet) (hl : r.length < 4294967295) :
    Calls Tryz.prog 24 #[.slice (some ⟨b, off, none⟩) (v :: nm :: r).length cap] w (ReadPost w (some ⟨b, off, none⟩) (v :: nm :: r) (readRef (v.data.toList :: nm.data.toList :: r.map (·.data.toList)))) := by
  obtain ⟨ad, e0, c0⟩ := Kd.at_string hC 0 (by omega) (by simp only [List.length_cons]; omega)
  cases e0
  have hlt : b < w.heap.size := World.block_lt_of_cell? w _ c0
  have c0' : w.cell? ⟨b, off, none⟩ = some (.string v) := c0
  obtain ⟨A', hcut, hcutC, hcutB⟩ := cutS' (v :: nm :: r) b off cap 1 (by simp) hcap
  have hlr : (v :: nm :: r).length - 1 = (nm :: r).length := by simp
  have hcap1 : (nm :: r).length ≤ cap - 1 := by rw [← hlr]; omega
  obtain ⟨A2, hcut2, hcutC2, hcutB2⟩ := cutS (nm :: r) A' (cap - 1) 1 (by simp) hcap1
  obtain ⟨i9, hi9, _, _, _⟩ := info_parts info9
  have hto := cut_to (P := Tryz.prog) 33 9 .i64 Tryz.underlying33 hi9 A' (nm :: r).length (cap - 1) 1 (by omega) (by simp; omega) hcap1
  have hto1 : ∀ W : World, (Instr.slice 33 (.slice A' (nm :: r).length (cap - 1)) none (some (.int .i64 1)) none).run Tryz.prog W = .ok (.slice A' 1 (cap - 1)) W := hto
  have hcut1 : ∀ W : World, (Instr.slice 33 (.slice (some ⟨b, off, none⟩) (v :: nm :: r).length cap) (some (.int .i64 1)) none none).run Tryz.prog W = .ok (.slice A' ((v :: nm :: r).length - 1) (cap - 1)) W := hcut
  rw [hlr] at hcut1
  have hcut2' : ∀ W : World, (Instr.slice 33 (.slice A' (nm :: r).length (cap - 1)) (some (.int .i64 1)) none none).run Tryz.prog W = .ok (.slice A2 ((nm :: r).length - 1) (cap - 1 - 1)) W := hcut2
  rw [show (nm :: r).length - 1 = r.length by simp] at hcut2'
  have hrc0 : ∀ W : World, Kd.string.C W (some ⟨b, off, none⟩) (v :: nm :: r).length (v :: nm :: r) → Kd.string.C W A' (nm :: r).length (nm :: r) := hcutC
  have hwin : Win (some ⟨b, off, none⟩) (v :: nm :: r) A' 1 (cap - 1) ([nm.data.toList].map mk) := by
    refine ⟨rfl, by simp at hcap1; omega, fun W h => ?_⟩
    have h2 := Kd.C_take (m := 1) (hrc0 W h) (by simp)
    rw [List.map_cons, List.map_nil, mk_of]; exact h2
  have hrc : ∀ W : World, Kd.string.C W (some ⟨b, off, none⟩) (v :: nm :: r).length (v :: nm :: r) → Kd.string.C W A2 r.length r := fun W h => hcutC2 W (hrc0 W h)
  have hl1 : (0 : Int) < ((v :: nm :: r).length : Int) := by simp only [List.length_cons]; omega
  have hl2 : (1 : Int) ≤ ((v :: nm :: r).length : Int) := by simp; omega
  have hvv : v.toList = vSet := by rw [Lib.toList_data]; exact hv
  have t_set : (v.toList == ([115, 101, 116] : List UInt8)) = true := by rw [hvv]; rfl
  have t_raw : (v.toList == ([114, 97, 119] : List UInt8)) = false := by rw [hvv]; rfl
  have t_config : (v.toList == ([99, 111, 110, 102, 105, 103] : List UInt8)) = false := by rw [hvv]; rfl
  have hna : namedRef v.data.toList = true := by rw [hv]; rfl
  have hby : bytesRef v.data.toList = false := by rw [hv]; rfl
  have HNA := Lib.hid hna
  have HBY := Lib.hid hby
  have HC := Lib.hid hC
  have HRC := Lib.hid hrc
  have HWIN := Lib.hid hwin
  have HNAM := Lib.hid hnam
  obtain ⟨ad, hAd, hcell⟩ := Kd.at_string (hrc0 w hC) 0 (by omega) (by simp)
  subst hAd
  have hcell1 : w.cell? ad = some (.string nm) := by cases ad; exact hcell
  have hadl : ad.block < w.heap.size := World.block_lt_of_cell? w ad hcell1
  have hcw : ∀ o o2 : Obj, ((w.alloc o).alloc o2).cell? ad = some (.string nm) := fun o o2 => (World.cell?_alloc_lt _ o2 ad (by rw [World.size_alloc]; omega)).trans ((World.cell?_alloc_lt w o ad hadl).trans hcell1)
  have hnm := fun W => ref_name nm W
  rw [hnam] at hnm
  have HNM := Lib.hid (hnm ((w.alloc (.cells #[.int .i64 0, .string ⟨#[]⟩, .slice none 0 0, .slice none 0 0, .slice none 0 0] 38)).alloc (.cells #[.int .i64 0, .string v, .slice none 0 0, .slice none 0 0, .slice none 0 0] 38)))
  have hr0 : (0 : Int) < ((nm :: r).length : Int) := by simp only [List.length_cons]; omega
  have hr1 : (((nm :: r).length : Nat) : Int) ≠ 0 := by simp only [List.length_cons]; omega
  generalize hlen : (v :: nm :: r).length = len at hcut1 hl1 hl2 ⊢
  generalize (nm :: r).length = len1 at hcut1 hcut2' hto1 hr0 hr1
  clear c0 hC hcut hcutC hcutB hlr hna hby hrc0 hrc hcap hvv hv hlen hcell hcell1 hnm hnam hwin hto hcut2 hcutC2 hcutB2 hcap1 hi9
  go_enter Tryz.func24, Tryz.ntmps24
  go_wp2_with (go_at_call 32; refine HNM.out.mono ?_; rintro e w1 ⟨rfl, hd0⟩; dsimp only; have hd1 := drawn_below hd0; have hk0 := (hd1.block w.heap.size (by simp <;> omega)).trans (up (.cells #[.int .i64 0, .string v, .slice none 0 0, .slice none 0 0, .slice none 0 0] 38) (fresh w (.cells #[.int .i64 0, .string ⟨#[]⟩, .slice none 0 0, .slice none 0 0, .slice none 0 0] 38) rfl)); have hk1 := (hd1.block (w.heap.size + 1) (by simp <;> omega)).trans (fresh (w.alloc (.cells #[.int .i64 0, .string ⟨#[]⟩, .slice none 0 0, .slice none 0 0, .slice none 0 0] 38)) (.cells #[.int .i64 0, .string v, .slice none 0 0, .slice none 0 0, .slice none 0 0] 38) (by simp)); have hB1 : Below w.heap.size w w1 := (((Below.refl _ w).alloc (Nat.le_refl _) _).alloc (by simp) _).trans (hd1.mono (by simp <;> omega)); obtain ⟨⟨k0, k1, k2, k3, k4⟩, ⟨f0, f1, f2, f3, f4⟩⟩ := cells38 hk1; have hz1 := hd1.size; simp only [World.size_alloc] at hz1; have cv : w1.cell? ⟨b, off, none⟩ = some (.string v) := (hB1.cell (p := ⟨b, off, none⟩) hlt).trans c0'; have HK0 := Lib.hid hk0; have HK1 := Lib.hid hk1; have HB1 := Lib.hid hB1; clear hd0 hd1 hk0 hk1 hB1)
  obtain ⟨W0, hW0⟩ : ∃ W0, w1.setCell ⟨w.heap.size + 1, 2, none⟩ (.slice (some ad) 1 (cap - 1)) = W0 := ⟨_, rfl⟩
  have q0 : W0.heap[w.heap.size]? = some (.cells #[.int .i64 0, .string ⟨#[]⟩, .slice none 0 0, .slice none 0 0, .slice none 0 0] 38 (0, 0)) := by
    rw [← hW0]; exact blk_far HK0.out (by simp) _
  have q1 : W0.heap[w.heap.size + 1]? = some (.cells #[.int .i64 0, .string v, .slice (some ad) 1 (cap - 1), .slice none 0 0, .slice none 0 0] 38 (0, 0)) := by
    rw [← hW0]; exact blk_set HK1.out 2 _
  have qb : Below w.heap.size w W0 := by rw [← hW0]; exact HB1.out.setCell (by simp) _
  have qs : w.heap.size + 2 ≤ W0.heap.size := by rw [← hW0, World.size_setCell]; omega
  rw [hW0]
  have Q0 := Lib.hid q0
  have Q1 := Lib.hid q1
  have QB := Lib.hid qb
  clear q0 q1 qb hW0 k0 k1 k2 k3 k4 f0 f1 f2 f3 f4 cv hcw
  go_loopw [10] (fun i wr => ∃ (k : Nat), k ≤ r.length ∧ i = .int .i64 k ∧ RI w v (.slice (some ad) 1 (cap - 1)) r k wr) (fun i _ => r.length - (intOf i).toNat)
  case atStart => exact ⟨0, Nat.zero_le _, rfl, _, [], Q0.out, Q1.out, Kd.R_nil _ _ _ _ _, QB.out, by omega, rfl, ⟨rfl⟩⟩
  case round =>
    obtain ⟨k, hk, rfl, vN, nsk, hb0, hb1, hR, hbl, hsz2, hnk, HN⟩ := hrel
    by_cases hkn : k < r.length
    · have hCr : Kd.string.C wr A2 r.length r := HRC.out wr (Kd.C_below HC.out hbl)
      obtain ⟨ad, hAe, hcell⟩ := Kd.at_string hCr k (by omega) (by omega)
      subst hAe
      rw [Int.toNat_natCast] at hcell
      have htk : (r.take (k + 1)).map (·.data.toList) = (r.take k).map (·.data.toList) ++ [(rdOf ByteArray.empty r k).data.toList] := by
        rw [List.take_succ_eq_append_getElem (by omega), List.map_append]
        unfold rdOf
        rw [Int.toNat_natCast, List.getD_eq_getElem?_getD, List.getElem?_eq_getElem (by omega), Option.getD_some]; rfl
      have hx : rdOf ByteArray.empty r k ∈ r := by
        unfold rdOf
        rw [Int.toNat_natCast, List.getD_eq_getElem?_getD, List.getElem?_eq_getElem (by omega), Option.getD_some]
        exact List.getElem_mem _
      have HT := Lib.hid htk
      have HX := Lib.hid hx
      generalize rdOf ByteArray.empty r k = x at *
      have hcl := ref_number x wr
      have HR := Lib.hid hR
      have HB0 := Lib.hid hb0
      have HB1 := Lib.hid hb1
      have HBL := Lib.hid hbl
      have HNK := Lib.hid hnk
      have hkn2 : (k : Int) < (r.length : Int) := by omega
      have hown : ∀ j, vN.ownBlock = some j → w.heap.size + 2 ≤ j := hR.1
      have HOW := Lib.hid hown
      have hlim : (nsk.length + 1) * 8 ≤ 140737488355328 := by omega
      have HLI := Lib.hid hlim
      clear htk hx hCr hR hb0 hb1 hbl hnk hown hlim
      rcases hno : numOf x.data.toList with _ | y
      · rw [hno] at hcl
        have HNO := Lib.hid hno
        have HCL := Lib.hid hcl
        clear hcl hno
        go_wp2_with (go_at_call 43; refine HCL.out.mono ?_; rintro e w1 ⟨rfl, hd1⟩; dsimp only [ans]; have hk0 := (hd1.block _ (by omega)).trans HB0.out; have hk1 := (hd1.block _ (by omega)).trans HB1.out; obtain ⟨A2, c2, rfl⟩ := Kd.R_slice HR.out; obtain ⟨⟨k0, k1, k2, k3, k4⟩, _⟩ := cells38 hk1; obtain ⟨⟨d0, d1, d2, d3, d4⟩, ⟨e0, e1, e2, e3, e4⟩⟩ := cells38 hk0; have HD1 := Lib.hid hd1; have HK0 := Lib.hid hk0; clear hd1 hk0 hk1)
        refine bodyPost_ret (results24 _ _ w.heap.size _ _ _ _ _ _ rfl rfl (set5_heap' HK0.out)) rfl ?_
        have e : readRef (v.data.toList :: nm.data.toList :: r.map (·.data.toList)) = none := by
          rw [readRef_cons, if_pos HNA.out]
          show (if isName nm.data.toList = true then restRef v.data.toList [nm.data.toList] (r.map (·.data.toList)) else none) = none
          rw [if_pos HNAM.out]
          unfold restRef
          rw [if_neg (by rw [HBY.out]; simp), numsOf_mem HNO.out HX.out]
        rw [e]
        have hb := HBL.out.trans (HD1.out.mono (by omega))
        exact ⟨hb.grown (set5_grown _ w.heap.size _ _ _ _ _) hb.size (fun k e => by cases e; exact Nat.le_refl _), _, _, _, _, _, _, _, _, _, _, _, rfl⟩
      · rw [hno] at hcl
        have HNO := Lib.hid hno
        have HCL := Lib.hid hcl
        clear hcl hno
        go_wp2_with (first
          | (go_at_call 43; refine HCL.out.mono ?_; rintro e w1 ⟨rfl, hd1⟩; dsimp only [ans]; have hk0 := (hd1.block _ (by omega)).trans HB0.out; have hk1 := (hd1.block _ (by omega)).trans HB1.out; have k3 : w1.cell? ⟨w.heap.size + 1, 3, none⟩ = some vN := blk_cell hk1 3; have HD1 := Lib.hid hd1; have HK0 := Lib.hid hk0; have HK1 := Lib.hid hk1; clear hd1 hk0 hk1)
          | (at_builtin; refine Kd.R_append (Kd.int .i64) (w0 := w1) w.heap.size rfl (.tmp 126) (.tmp 128) 34 2 (.int .i64 0) 8 rfl Tryz.underlying34 info2 rfl (by decide) (by omega) vN nsk y [.int .i64 y] (fun j => w.heap.size + 2 ≤ j) (fun _ => False) rfl rfl ?aP (fun _ hk => hk.elim) ?aF ?aO ?aB ?aS ?aL ?_; (case aP => exact rfl); (case aF => (intro j hj; have := HD1.out.size; omega)); (case aO => exact Kd.R_below HR.out HD1.out); (case aB => exact Below.refl _ _); (case aS => (have := HD1.out.size; omega)); (case aL => exact HLI.out); intro v1 w2 ho hb2 hg2 hat; obtain ⟨A1, q1, rfl⟩ := Kd.R_slice ho; have hne := fun (g : Nat) (hg : g < w.heap.size + 2) (e : some g = vN.ownBlock) => (by have := HOW.out g e.symm; omega : False); have hk0 := blk_grown HK0.out hg2 (hne _ (by omega)); have hk1 := blk_grown HK1.out hg2 (hne _ (by omega)); have c3 : w2.cell? ⟨w.heap.size + 1, 3, none⟩ = some vN := blk_cell hk1 3; have f3 := blk_frozen hk1 3; have HK0b := Lib.hid hk0; have HK1b := Lib.hid hk1; have HO := Lib.hid ho; have HG2 := Lib.hid hg2; clear hk0 hk1 ho hg2 hat hb2 hne))
        go_roundw
        case rel =>
          refine ⟨k + 1, by omega, by go_num, _, nsk ++ [y], blk_far HK0b.out (by simp) _, blk_set HK1b.out 3 _, ?_, ?_, ?_, by rw [List.length_append, HNK.out]; rfl, ⟨?_⟩⟩
          · have h := Kd.R_set HO.out HK1b.out (by simp [Kd.int, Kd.scalar]) 3 (.slice A1 (nsk ++ [y]).length q1)
            simpa using h
          · have hb := HBL.out.trans (HD1.out.mono (by omega))
            exact (hb.grown HG2.out hb.size (fun j e => by have := HOW.out j e; omega)).setCell (by simp) _
          · have := HD1.out.size; have := HG2.out.size; simp; omega
          · rw [HT.out, numsOf_snoc, HN.out, HNO.out]; rfl
        case measure => simp [intOf]; omega
    · obtain rfl : k = r.length := by omega
      have hnum := HN.out
      rw [List.take_length] at hnum
      have HNU := Lib.hid hnum
      obtain ⟨A2, c2, rfl⟩ := Kd.R_slice hR
      obtain ⟨⟨k0, k1, k2, k3, k4⟩, _⟩ := cells38 hb1
      obtain ⟨⟨d0, d1, d2, d3, d4⟩, ⟨e0, e1, e2, e3, e4⟩⟩ := cells38 hb0
      have cv : wr.cell? ⟨b, off, none⟩ = some (.string v) := (hbl.cell (p := ⟨b, off, none⟩) hlt).trans c0'
      have HR := Lib.hid hR
      have HB0 := Lib.hid hb0
      have HBL := Lib.hid hbl
      clear hR hb0 hb1 hbl hnum HN hnk
      have hro : readRef (v.data.toList :: nm.data.toList :: r.map (·.data.toList)) = if countRef v.data.toList r.length = true then some ⟨0, v.data.toList, [nm.data.toList], nsk, []⟩ else none := by
        rw [readRef_cons, if_pos HNA.out]
        show (if isName nm.data.toList = true then restRef v.data.toList [nm.data.toList] (r.map (·.data.toList)) else none) = _
        rw [if_pos HNAM.out]
        unfold restRef
        rw [if_neg (by rw [HBY.out]; simp), HNU.out, List.length_map]
      have HRO := Lib.hid hro
      clear hro
      have hx : (((r.length : Nat) : Int) == 1) = countRef v.data.toList r.length := by
        rw [countRef_tests]
        simp only [t_set, if_true]
      have HX := Lib.hid hx
      clear hx
      go_wp2
      refine bodyPost_ret (results24 _ _ w.heap.size _ _ _ _ _ _ rfl rfl (set5_heap' HB0.out)) rfl ?_
      exact read_leaf HBL.out hsz2 HB0.out HR.out HWIN.out HRO.out HX.out

set_option maxRecDepth 100000 in
set_option maxHeartbeats 2000000 in
theorem read_count_name (b off cap : Nat) (v nm : ByteArray) (r : List ByteArray) (w : World) (hC : Kd.string.C w (some ⟨b, off, none⟩) (v :: nm :: r).length (v :: nm :: r)) (hcap : (v :: nm :: r).length ≤ cap)
    (hnam : isName nm.data.toList = true) (hv : v.data.toList = vCount) (hl : r.length < 4294967295) :
    Calls Tryz.prog 24 #[.slice (some ⟨b, off, none⟩) (v :: nm :: r).length cap] w (ReadPost w (some ⟨b, off, none⟩) (v :: nm :: r) (readRef (v.data.toList :: nm.data.toList :: r.map (·.data.toList)))) := by
  obtain ⟨ad, e0, c0⟩ := Kd.at_string hC 0 (by omega) (by simp only [List.length_cons]; omega)
  cases e0
  have hlt : b < w.heap.size := World.block_lt_of_cell? w _ c0
  have c0' : w.cell? ⟨b, off, none⟩ = some (.string v) := c0
  obtain ⟨A', hcut, hcutC, hcutB⟩ := cutS' (v :: nm :: r) b off cap 1 (by simp) hcap
  have hlr : (v :: nm :: r).length - 1 = (nm :: r).length := by simp
  have hcap1 : (nm :: r).length ≤ cap - 1 := by rw [← hlr]; omega
  obtain ⟨A2, hcut2, hcutC2, hcutB2⟩ := cutS (nm :: r) A' (cap - 1) 1 (by simp) hcap1
  obtain ⟨i9, hi9, _, _, _⟩ := info_parts info9
  have hto := cut_to (P := Tryz.prog) 33 9 .i64 Tryz.underlying33 hi9 A' (nm :: r).length (cap - 1) 1 (by omega) (by simp; omega) hcap1
  have hto1 : ∀ W : World, (Instr.slice 33 (.slice A' (nm :: r).length (cap - 1)) none (some (.int .i64 1)) none).run Tryz.prog W = .ok (.slice A' 1 (cap - 1)) W := hto
  have hcut1 : ∀ W : World, (Instr.slice 33 (.slice (some ⟨b, off, none⟩) (v :: nm :: r).length cap) (some (.int .i64 1)) none none).run Tryz.prog W = .ok (.slice A' ((v :: nm :: r).length - 1) (cap - 1)) W := hcut
  rw [hlr] at hcut1
  have hcut2' : ∀ W : World, (Instr.slice 33 (.slice A' (nm :: r).length (cap - 1)) (some (.int .i64 1)) none none).run Tryz.prog W = .ok (.slice A2 ((nm :: r).length - 1) (cap - 1 - 1)) W := hcut2
  rw [show (nm :: r).length - 1 = r.length by simp] at hcut2'
  have hrc0 : ∀ W : World, Kd.string.C W (some ⟨b, off, none⟩) (v :: nm :: r).length (v :: nm :: r) → Kd.string.C W A' (nm :: r).length (nm :: r) := hcutC
  have hwin : Win (some ⟨b, off, none⟩) (v :: nm :: r) A' 1 (cap - 1) ([nm.data.toList].map mk) := by
    refine ⟨rfl, by simp at hcap1; omega, fun W h => ?_⟩
    have h2 := Kd.C_take (m := 1) (hrc0 W h) (by simp)
    rw [List.map_cons, List.map_nil, mk_of]; exact h2
  have hrc : ∀ W : World, Kd.string.C W (some ⟨b, off, none⟩) (v :: nm :: r).length (v :: nm :: r) → Kd.string.C W A2 r.length r := fun W h => hcutC2 W (hrc0 W h)
  have hl1 : (0 : Int) < ((v :: nm :: r).length : Int) := by simp only [List.length_cons]; omega
  have hl2 : (1 : Int) ≤ ((v :: nm :: r).length : Int) := by simp; omega
  have hvv : v.toList = vCount := by rw [Lib.toList_data]; exact hv
  have t_set : (v.toList == ([115, 101, 116] : List UInt8)) = false := by rw [hvv]; rfl
  have t_count : (v.toList == ([99, 111, 117, 110, 116] : List UInt8)) = true := by rw [hvv]; rfl
  have t_track : (v.toList == ([116, 114, 97, 99, 107] : List UInt8)) = false := by rw [hvv]; rfl
  have t_model : (v.toList == ([109, 111, 100, 101, 108] : List UInt8)) = false := by rw [hvv]; rfl
  have t_row : (v.toList == ([114, 111, 119] : List UInt8)) = false := by rw [hvv]; rfl
  have t_start : (v.toList == ([115, 116, 97, 114, 116] : List UInt8)) = false := by rw [hvv]; rfl
  have t_tracks : (v.toList == ([116, 114, 97, 99, 107, 115] : List UInt8)) = false := by rw [hvv]; rfl
  have t_counts : (v.toList == ([99, 111, 117, 110, 116, 115] : List UInt8)) = false := by rw [hvv]; rfl
  have t_time : (v.toList == ([116, 105, 109, 101] : List UInt8)) = false := by rw [hvv]; rfl
  have t_raw : (v.toList == ([114, 97, 119] : List UInt8)) = false := by rw [hvv]; rfl
  have t_config : (v.toList == ([99, 111, 110, 102, 105, 103] : List UInt8)) = false := by rw [hvv]; rfl
  have hna : namedRef v.data.toList = true := by rw [hv]; rfl
  have hby : bytesRef v.data.toList = false := by rw [hv]; rfl
  have HNA := Lib.hid hna
  have HBY := Lib.hid hby
  have HC := Lib.hid hC
  have HRC := Lib.hid hrc
  have HWIN := Lib.hid hwin
  have HNAM := Lib.hid hnam
  obtain ⟨ad, hAd, hcell⟩ := Kd.at_string (hrc0 w hC) 0 (by omega) (by simp)
  subst hAd
  have hcell1 : w.cell? ad = some (.string nm) := by cases ad; exact hcell
  have hadl : ad.block < w.heap.size := World.block_lt_of_cell? w ad hcell1
  have hcw : ∀ o o2 : Obj, ((w.alloc o).alloc o2).cell? ad = some (.string nm) := fun o o2 => (World.cell?_alloc_lt _ o2 ad (by rw [World.size_alloc]; omega)).trans ((World.cell?_alloc_lt w o ad hadl).trans hcell1)
  have hnm := fun W => ref_name nm W
  rw [hnam] at hnm
  have HNM := Lib.hid (hnm ((w.alloc (.cells #[.int .i64 0, .string ⟨#[]⟩, .slice none 0 0, .slice none 0 0, .slice none 0 0] 38)).alloc (.cells #[.int .i64 0, .string v, .slice none 0 0, .slice none 0 0, .slice none 0 0] 38)))
  have hr0 : (0 : Int) < ((nm :: r).length : Int) := by simp only [List.length_cons]; omega
  have hr1 : (((nm :: r).length : Nat) : Int) ≠ 0 := by simp only [List.length_cons]; omega
  generalize hlen : (v :: nm :: r).length = len at hcut1 hl1 hl2 ⊢
  generalize (nm :: r).length = len1 at hcut1 hcut2' hto1 hr0 hr1
  clear c0 hC hcut hcutC hcutB hlr hna hby hrc0 hrc hcap hvv hv hlen hcell hcell1 hnm hnam hwin hto hcut2 hcutC2 hcutB2 hcap1 hi9
  go_enter Tryz.func24, Tryz.ntmps24
  go_wp2_with (go_at_call 32; refine HNM.out.mono ?_; rintro e w1 ⟨rfl, hd0⟩; dsimp only; have hd1 := drawn_below hd0; have hk0 := (hd1.block w.heap.size (by simp <;> omega)).trans (up (.cells #[.int .i64 0, .string v, .slice none 0 0, .slice none 0 0, .slice none 0 0] 38) (fresh w (.cells #[.int .i64 0, .string ⟨#[]⟩, .slice none 0 0, .slice none 0 0, .slice none 0 0] 38) rfl)); have hk1 := (hd1.block (w.heap.size + 1) (by simp <;> omega)).trans (fresh (w.alloc (.cells #[.int .i64 0, .string ⟨#[]⟩, .slice none 0 0, .slice none 0 0, .slice none 0 0] 38)) (.cells #[.int .i64 0, .string v, .slice none 0 0, .slice none 0 0, .slice none 0 0] 38) (by simp)); have hB1 : Below w.heap.size w w1 := (((Below.refl _ w).alloc (Nat.le_refl _) _).alloc (by simp) _).trans (hd1.mono (by simp <;> omega)); obtain ⟨⟨k0, k1, k2, k3, k4⟩, ⟨f0, f1, f2, f3, f4⟩⟩ := cells38 hk1; have hz1 := hd1.size; simp only [World.size_alloc] at hz1; have cv : w1.cell? ⟨b, off, none⟩ = some (.string v) := (hB1.cell (p := ⟨b, off, none⟩) hlt).trans c0'; have HK0 := Lib.hid hk0; have HK1 := Lib.hid hk1; have HB1 := Lib.hid hB1; clear hd0 hd1 hk0 hk1 hB1)
  obtain ⟨W0, hW0⟩ : ∃ W0, w1.setCell ⟨w.heap.size + 1, 2, none⟩ (.slice (some ad) 1 (cap - 1)) = W0 := ⟨_, rfl⟩
  have q0 : W0.heap[w.heap.size]? = some (.cells #[.int .i64 0, .string ⟨#[]⟩, .slice none 0 0, .slice none 0 0, .slice none 0 0] 38 (0, 0)) := by
    rw [← hW0]; exact blk_far HK0.out (by simp) _
  have q1 : W0.heap[w.heap.size + 1]? = some (.cells #[.int .i64 0, .string v, .slice (some ad) 1 (cap - 1), .slice none 0 0, .slice none 0 0] 38 (0, 0)) := by
    rw [← hW0]; exact blk_set HK1.out 2 _
  have qb : Below w.heap.size w W0 := by rw [← hW0]; exact HB1.out.setCell (by simp) _
  have qs : w.heap.size + 2 ≤ W0.heap.size := by rw [← hW0, World.size_setCell]; omega
  rw [hW0]
  have Q0 := Lib.hid q0
  have Q1 := Lib.hid q1
  have QB := Lib.hid qb
  clear q0 q1 qb hW0 k0 k1 k2 k3 k4 f0 f1 f2 f3 f4 cv hcw
  go_loopw [10] (fun i wr => ∃ (k : Nat), k ≤ r.length ∧ i = .int .i64 k ∧ RI w v (.slice (some ad) 1 (cap - 1)) r k wr) (fun i _ => r.length - (intOf i).toNat)
  case atStart => exact ⟨0, Nat.zero_le _, rfl, _, [], Q0.out, Q1.out, Kd.R_nil _ _ _ _ _, QB.out, by omega, rfl, ⟨rfl⟩⟩
  case round =>
    obtain ⟨k, hk, rfl, vN, nsk, hb0, hb1, hR, hbl, hsz2, hnk, HN⟩ := hrel
    by_cases hkn : k < r.length
    · have hCr : Kd.string.C wr A2 r.length r := HRC.out wr (Kd.C_below HC.out hbl)
      obtain ⟨ad, hAe, hcell⟩ := Kd.at_string hCr k (by omega) (by omega)
      subst hAe
      rw [Int.toNat_natCast] at hcell
      have htk : (r.take (k + 1)).map (·.data.toList) = (r.take k).map (·.data.toList) ++ [(rdOf ByteArray.empty r k).data.toList] := by
        rw [List.take_succ_eq_append_getElem (by omega), List.map_append]
        unfold rdOf
        rw [Int.toNat_natCast, List.getD_eq_getElem?_getD, List.getElem?_eq_getElem (by omega), Option.getD_some]; rfl
      have hx : rdOf ByteArray.empty r k ∈ r := by
        unfold rdOf
        rw [Int.toNat_natCast, List.getD_eq_getElem?_getD, List.getElem?_eq_getElem (by omega), Option.getD_some]
        exact List.getElem_mem _
      have HT := Lib.hid htk
      have HX := Lib.hid hx
      generalize rdOf ByteArray.empty r k = x at *
      have hcl := ref_number x wr
      have HR := Lib.hid hR
      have HB0 := Lib.hid hb0
      have HB1 := Lib.hid hb1
      have HBL := Lib.hid hbl
      have HNK := Lib.hid hnk
      have hkn2 : (k : Int) < (r.length : Int) := by omega
      have hown : ∀ j, vN.ownBlock = some j → w.heap.size + 2 ≤ j := hR.1
      have HOW := Lib.hid hown
      have hlim : (nsk.length + 1) * 8 ≤ 140737488355328 := by omega
      have HLI := Lib.hid hlim
      clear htk hx hCr hR hb0 hb1 hbl hnk hown hlim
      rcases hno : numOf x.data.toList with _ | y
      · rw [hno] at hcl
        have HNO := Lib.hid hno
        have HCL := Lib.hid hcl
        clear hcl hno
        go_wp2_with (go_at_call 43; refine HCL.out.mono ?_; rintro e w1 ⟨rfl, hd1⟩; dsimp only [ans]; have hk0 := (hd1.block _ (by omega)).trans HB0.out; have hk1 := (hd1.block _ (by omega)).trans HB1.out; obtain ⟨A2, c2, rfl⟩ := Kd.R_slice HR.out; obtain ⟨⟨k0, k1, k2, k3, k4⟩, _⟩ := cells38 hk1; obtain ⟨⟨d0, d1, d2, d3, d4⟩, ⟨e0, e1, e2, e3, e4⟩⟩ := cells38 hk0; have HD1 := Lib.hid hd1; have HK0 := Lib.hid hk0; clear hd1 hk0 hk1)
        refine bodyPost_ret (results24 _ _ w.heap.size _ _ _ _ _ _ rfl rfl (set5_heap' HK0.out)) rfl ?_
        have e : readRef (v.data.toList :: nm.data.toList :: r.map (·.data.toList)) = none := by
          rw [readRef_cons, if_pos HNA.out]
          show (if isName nm.data.toList = true then restRef v.data.toList [nm.data.toList] (r.map (·.data.toList)) else none) = none
          rw [if_pos HNAM.out]
          unfold restRef
          rw [if_neg (by rw [HBY.out]; simp), numsOf_mem HNO.out HX.out]
        rw [e]
        have hb := HBL.out.trans (HD1.out.mono (by omega))
        exact ⟨hb.grown (set5_grown _ w.heap.size _ _ _ _ _) hb.size (fun k e => by cases e; exact Nat.le_refl _), _, _, _, _, _, _, _, _, _, _, _, rfl⟩
      · rw [hno] at hcl
        have HNO := Lib.hid hno
        have HCL := Lib.hid hcl
        clear hcl hno
        go_wp2_with (first
          | (go_at_call 43; refine HCL.out.mono ?_; rintro e w1 ⟨rfl, hd1⟩; dsimp only [ans]; have hk0 := (hd1.block _ (by omega)).trans HB0.out; have hk1 := (hd1.block _ (by omega)).trans HB1.out; have k3 : w1.cell? ⟨w.heap.size + 1, 3, none⟩ = some vN := blk_cell hk1 3; have HD1 := Lib.hid hd1; have HK0 := Lib.hid hk0; have HK1 := Lib.hid hk1; clear hd1 hk0 hk1)
          | (at_builtin; refine Kd.R_append (Kd.int .i64) (w0 := w1) w.heap.size rfl (.tmp 126) (.tmp 128) 34 2 (.int .i64 0) 8 rfl Tryz.underlying34 info2 rfl (by decide) (by omega) vN nsk y [.int .i64 y] (fun j => w.heap.size + 2 ≤ j) (fun _ => False) rfl rfl ?aP (fun _ hk => hk.elim) ?aF ?aO ?aB ?aS ?aL ?_; (case aP => exact rfl); (case aF => (intro j hj; have := HD1.out.size; omega)); (case aO => exact Kd.R_below HR.out HD1.out); (case aB => exact Below.refl _ _); (case aS => (have := HD1.out.size; omega)); (case aL => exact HLI.out); intro v1 w2 ho hb2 hg2 hat; obtain ⟨A1, q1, rfl⟩ := Kd.R_slice ho; have hne := fun (g : Nat) (hg : g < w.heap.size + 2) (e : some g = vN.ownBlock) => (by have := HOW.out g e.symm; omega : False); have hk0 := blk_grown HK0.out hg2 (hne _ (by omega)); have hk1 := blk_grown HK1.out hg2 (hne _ (by omega)); have c3 : w2.cell? ⟨w.heap.size + 1, 3, none⟩ = some vN := blk_cell hk1 3; have f3 := blk_frozen hk1 3; have HK0b := Lib.hid hk0; have HK1b := Lib.hid hk1; have HO := Lib.hid ho; have HG2 := Lib.hid hg2; clear hk0 hk1 ho hg2 hat hb2 hne))
        go_roundw
        case rel =>
          refine ⟨k + 1, by omega, by go_num, _, nsk ++ [y], blk_far HK0b.out (by simp) _, blk_set HK1b.out 3 _, ?_, ?_, ?_, by rw [List.length_append, HNK.out]; rfl, ⟨?_⟩⟩
          · have h := Kd.R_set HO.out HK1b.out (by simp [Kd.int, Kd.scalar]) 3 (.slice A1 (nsk ++ [y]).length q1)
            simpa using h
          · have hb := HBL.out.trans (HD1.out.mono (by omega))
            exact (hb.grown HG2.out hb.size (fun j e => by have := HOW.out j e; omega)).setCell (by simp) _
          · have := HD1.out.size; have := HG2.out.size; simp; omega
          · rw [HT.out, numsOf_snoc, HN.out, HNO.out]; rfl
        case measure => simp [intOf]; omega
    · obtain rfl : k = r.length := by omega
      have hnum := HN.out
      rw [List.take_length] at hnum
      have HNU := Lib.hid hnum
      obtain ⟨A2, c2, rfl⟩ := Kd.R_slice hR
      obtain ⟨⟨k0, k1, k2, k3, k4⟩, _⟩ := cells38 hb1
      obtain ⟨⟨d0, d1, d2, d3, d4⟩, ⟨e0, e1, e2, e3, e4⟩⟩ := cells38 hb0
      have cv : wr.cell? ⟨b, off, none⟩ = some (.string v) := (hbl.cell (p := ⟨b, off, none⟩) hlt).trans c0'
      have HR := Lib.hid hR
      have HB0 := Lib.hid hb0
      have HBL := Lib.hid hbl
      clear hR hb0 hb1 hbl hnum HN hnk
      have hro : readRef (v.data.toList :: nm.data.toList :: r.map (·.data.toList)) = if countRef v.data.toList r.length = true then some ⟨0, v.data.toList, [nm.data.toList], nsk, []⟩ else none := by
        rw [readRef_cons, if_pos HNA.out]
        show (if isName nm.data.toList = true then restRef v.data.toList [nm.data.toList] (r.map (·.data.toList)) else none) = _
        rw [if_pos HNAM.out]
        unfold restRef
        rw [if_neg (by rw [HBY.out]; simp), HNU.out, List.length_map]
      have HRO := Lib.hid hro
      clear hro
      have hx : (((r.length : Nat) : Int) == 0) = countRef v.data.toList r.length := by
        rw [countRef_tests]
        simp only [t_set, t_track, t_model, t_row, t_start, t_tracks, t_counts, t_time, t_count, Bool.false_eq_true, if_true, if_false]
      have HX := Lib.hid hx
      clear hx
      go_wp2
      refine bodyPost_ret (results24 _ _ w.heap.size _ _ _ _ _ _ rfl rfl (set5_heap' HB0.out)) rfl ?_
      exact read_leaf HBL.out hsz2 HB0.out HR.out HWIN.out HRO.out HX.out
end Go.Proofs.YtfiacgkhkonilaaGreatDoor

/- The walk of the document's Read, at the verbs with bytes. -/
namespace Go.Proofs.YtfiacgkhkonilaaGreatDoor
open Go Go.RowKit Go.Shelf Go.Proofs.YtfiacgkhkonilaaGreatDoorW.PrintWords Go.Proofs.YtfiacgkhkonilaaGreatDoorW.PrintLast Go.Proofs.YtfiacgkhkonilaaGreatDoorW.PrintMore

theorem digit_quiet (c : UInt8) (W : World) (n : Nat) : Calls Tryz.prog 42 #[.int .u8 c.toNat] (W.drewN n) fun e w'' => e = .returned (.int .i64 (hexVal c)) ∧ ∃ m, w'' = W.drewN m :=
  (ref_digit c (W.drewN n)).mono fun e w'' ⟨h, hd⟩ => ⟨h, by obtain ⟨⟨q, rfl⟩⟩ := hd; exact ⟨n + q, World.drewN_drewN _ _ _⟩⟩
theorem small_j {j n : Nat} (h : n ≤ 140737488351232) (hj : (j : Int) < (n : Int)) : (j : Int) ≤ 140737488351232 := by omega
theorem byte_at (x : ByteArray) (k : Nat) (h : k < x.size) : (x[k]'h) = x.data.toList.getD k 0 := by
  have hsz := Lib.size_eq x
  rw [List.getD_eq_getElem?_getD, List.getElem?_eq_getElem (by omega), Option.getD_some]
  simp [ByteArray.getElem_eq_getElem_data]
/-- What holds between two rounds of Read's bytes. -/
def RB (w : World) (v : ByteArray) (l : B) (k : Nat) (wr : World) : Prop := ∃ (vB : Value), wr.heap[w.heap.size]? = some (.cells #[.int .i64 0, .string ⟨#[]⟩, .slice none 0 0, .slice none 0 0, .slice none 0 0] 38 (0, 0)) ∧
      wr.heap[w.heap.size + 1]? = some (.cells #[.int .i64 0, .string v, .slice none 0 0, .slice none 0 0, vB] 38 (0, 0)) ∧ (Kd.int .u8).R 5 wr w.heap.size (fun j => w.heap.size + 2 ≤ j) vB ((List.range k).map (pv l)) ∧ Below w.heap.size w wr ∧ w.heap.size + 2 ≤ wr.heap.size ∧
      Aside0 (∀ q, q < k → pok l q)

set_option maxRecDepth 100000 in
set_option maxHeartbeats 1000000 in
theorem read_raw_many (b off cap : Nat) (v : ByteArray) (rs : List ByteArray) (w : World) (hC : Kd.string.C w (some ⟨b, off, none⟩) (v :: rs).length (v :: rs)) (hcap : (v :: rs).length ≤ cap)
    (hbad : rs.length ≠ 1) (hv : v.data.toList = vRaw) :
    Calls Tryz.prog 24 #[.slice (some ⟨b, off, none⟩) (v :: rs).length cap] w (ReadPost w (some ⟨b, off, none⟩) (v :: rs) (readRef (v.data.toList :: rs.map (·.data.toList)))) := by
  obtain ⟨ad, e0, c0⟩ := Kd.at_string hC 0 (by omega) (by simp only [List.length_cons]; omega)
  cases e0
  have hlt : b < w.heap.size := World.block_lt_of_cell? w _ c0
  have c0' : w.cell? ⟨b, off, none⟩ = some (.string v) := c0
  obtain ⟨A', hcut, hcutC, hcutB⟩ := cutS' (v :: rs) b off cap 1 (by simp) hcap
  have hcut1 : ∀ W : World, (Instr.slice 33 (.slice (some ⟨b, off, none⟩) (v :: rs).length cap) (some (.int .i64 1)) none none).run Tryz.prog W = .ok (.slice A' ((v :: rs).length - 1) (cap - 1)) W := hcut
  have hlr : (v :: rs).length - 1 = rs.length := by simp
  rw [hlr] at hcut1
  have hl1 : (0 : Int) < ((v :: rs).length : Int) := by simp only [List.length_cons]; omega
  have hl2 : (1 : Int) ≤ ((v :: rs).length : Int) := by simp only [List.length_cons]; omega
  have hvv : v.toList = vRaw := by rw [Lib.toList_data]; exact hv
  have t_set : (v.toList == ([115, 101, 116] : List UInt8)) = false := by rw [hvv]; rfl
  have t_count : (v.toList == ([99, 111, 117, 110, 116] : List UInt8)) = false := by rw [hvv]; rfl
  have t_raw : (v.toList == ([114, 97, 119] : List UInt8)) = true := by rw [hvv]; rfl
  have hna : namedRef v.data.toList = false := by rw [hv]; rfl
  have hby : bytesRef v.data.toList = true := by rw [hv]; rfl
  have hrc0 : ∀ W : World, Kd.string.C W (some ⟨b, off, none⟩) (v :: rs).length (v :: rs) → Kd.string.C W A' rs.length rs := hcutC
  have HNA := Lib.hid hna
  have HBY := Lib.hid hby
  have HC := Lib.hid hC
  have HR0 := Lib.hid hrc0
  have hro : readRef (v.data.toList :: rs.map (·.data.toList)) = none := by
    rw [readRef_cons, if_neg (by rw [HNA.out]; simp)]
    unfold restRef
    rw [if_pos HBY.out]
    match rs, hbad with
    | [], _ => rfl
    | [x], h => simp at h
    | x :: y :: l, _ => rfl
  have HRO := Lib.hid hro
  have hne : (((rs.length : Nat) : Int) != 1) = true := by rw [bne_iff_ne]; omega
  generalize hlen : (v :: rs).length = len at hcut1 hl1 hl2 ⊢
  clear c0 hC hcut hcutC hcutB hlr hna hby hrc0 hcap hvv hv hlen hro
  go_enter Tryz.func24, Tryz.ntmps24
  go_wp2
  refine bodyPost_ret (results24 _ _ w.heap.size _ _ _ _ _ _ rfl rfl (up _ (fresh w _ rfl))) rfl ?_
  rw [HRO.out]
  exact ⟨((Below.refl _ w).alloc (Nat.le_refl _) _).alloc (by simp) _, _, _, _, _, _, _, _, _, _, _, _, rfl⟩

set_option maxRecDepth 100000 in
set_option maxHeartbeats 1000000 in
theorem read_raw_odd (b off cap : Nat) (v x : ByteArray) (rs : List ByteArray) (hrs : rs = [x]) (w : World) (hC : Kd.string.C w (some ⟨b, off, none⟩) (v :: rs).length (v :: rs)) (hcap : (v :: rs).length ≤ cap)
    (hbad : x.size % 2 ≠ 0) (hv : v.data.toList = vRaw) :
    Calls Tryz.prog 24 #[.slice (some ⟨b, off, none⟩) (v :: rs).length cap] w (ReadPost w (some ⟨b, off, none⟩) (v :: rs) (readRef (v.data.toList :: rs.map (·.data.toList)))) := by
  obtain ⟨ad, e0, c0⟩ := Kd.at_string hC 0 (by omega) (by simp only [List.length_cons]; omega)
  cases e0
  have hlt : b < w.heap.size := World.block_lt_of_cell? w _ c0
  have c0' : w.cell? ⟨b, off, none⟩ = some (.string v) := c0
  obtain ⟨A', hcut, hcutC, hcutB⟩ := cutS' (v :: rs) b off cap 1 (by simp) hcap
  have hcut1 : ∀ W : World, (Instr.slice 33 (.slice (some ⟨b, off, none⟩) (v :: rs).length cap) (some (.int .i64 1)) none none).run Tryz.prog W = .ok (.slice A' ((v :: rs).length - 1) (cap - 1)) W := hcut
  have hlr : (v :: rs).length - 1 = rs.length := by simp
  rw [hlr] at hcut1
  have hl1 : (0 : Int) < ((v :: rs).length : Int) := by simp only [List.length_cons]; omega
  have hl2 : (1 : Int) ≤ ((v :: rs).length : Int) := by simp only [List.length_cons]; omega
  have hvv : v.toList = vRaw := by rw [Lib.toList_data]; exact hv
  have t_set : (v.toList == ([115, 101, 116] : List UInt8)) = false := by rw [hvv]; rfl
  have t_count : (v.toList == ([99, 111, 117, 110, 116] : List UInt8)) = false := by rw [hvv]; rfl
  have t_raw : (v.toList == ([114, 97, 119] : List UInt8)) = true := by rw [hvv]; rfl
  have hna : namedRef v.data.toList = false := by rw [hv]; rfl
  have hby : bytesRef v.data.toList = true := by rw [hv]; rfl
  have hrc0 : ∀ W : World, Kd.string.C W (some ⟨b, off, none⟩) (v :: rs).length (v :: rs) → Kd.string.C W A' rs.length rs := hcutC
  have HNA := Lib.hid hna
  have HBY := Lib.hid hby
  have HC := Lib.hid hC
  have HR0 := Lib.hid hrc0
  have hro : readRef (v.data.toList :: rs.map (·.data.toList)) = none := by
    rw [readRef_cons, if_neg (by rw [HNA.out]; simp)]
    unfold restRef
    rw [if_pos HBY.out, hrs]
    show (if x.data.toList.length % 2 = 0 then (hexOf x.data.toList).map _ else none) = none
    rw [if_neg (by rw [← Lib.size_eq]; exact hbad)]
  have HRO := Lib.hid hro
  have hone : rs.length = 1 := by rw [hrs]; rfl
  obtain ⟨ad, hAd, hcell⟩ := Kd.at_string (hrc0 w hC) 0 (by omega) (by omega)
  subst hAd
  have hcell1 : w.cell? ad = some (.string x) := by cases ad; rw [hrs] at hcell; exact hcell
  have hadl : ad.block < w.heap.size := World.block_lt_of_cell? w ad hcell1
  have hcw : ∀ o o2 : Obj, ((w.alloc o).alloc o2).cell? ad = some (.string x) := fun o o2 => (World.cell?_alloc_lt _ o2 ad (by rw [World.size_alloc]; omega)).trans ((World.cell?_alloc_lt w o ad hadl).trans hcell1)
  have hodd : ((x.size : Int) % 2 != 0) = true := by rw [bne_iff_ne]; omega
  rw [hone] at hcut1
  generalize hlen : (v :: rs).length = len at hcut1 hl1 hl2 ⊢
  clear c0 hC hcut hcutC hcutB hlr hna hby hrc0 hcap hvv hv hlen hro hcell hcell1 hrs
  go_enter Tryz.func24, Tryz.ntmps24
  go_wp2
  refine bodyPost_ret (results24 _ _ w.heap.size _ _ _ _ _ _ rfl rfl (up _ (fresh w _ rfl))) rfl ?_
  rw [HRO.out]
  exact ⟨((Below.refl _ w).alloc (Nat.le_refl _) _).alloc (by simp) _, _, _, _, _, _, _, _, _, _, _, _, rfl⟩

set_option maxRecDepth 100000 in
set_option maxHeartbeats 2000000 in
theorem read_raw_even (b off cap : Nat) (v x : ByteArray) (rs : List ByteArray) (hrs : rs = [x]) (m : Nat) (w : World) (hC : Kd.string.C w (some ⟨b, off, none⟩) (v :: rs).length (v :: rs)) (hcap : (v :: rs).length ≤ cap)
    (hm : x.size = 2 * m) (hxs : x.size ≤ 140737488351232) (hv : v.data.toList = vRaw) :
    Calls Tryz.prog 24 #[.slice (some ⟨b, off, none⟩) (v :: rs).length cap] w (ReadPost w (some ⟨b, off, none⟩) (v :: rs) (readRef (v.data.toList :: rs.map (·.data.toList)))) := by
  obtain ⟨ad, e0, c0⟩ := Kd.at_string hC 0 (by omega) (by simp only [List.length_cons]; omega)
  cases e0
  have hlt : b < w.heap.size := World.block_lt_of_cell? w _ c0
  have c0' : w.cell? ⟨b, off, none⟩ = some (.string v) := c0
  obtain ⟨A', hcut, hcutC, hcutB⟩ := cutS' (v :: rs) b off cap 1 (by simp) hcap
  have hcut1 : ∀ W : World, (Instr.slice 33 (.slice (some ⟨b, off, none⟩) (v :: rs).length cap) (some (.int .i64 1)) none none).run Tryz.prog W = .ok (.slice A' ((v :: rs).length - 1) (cap - 1)) W := hcut
  have hlr : (v :: rs).length - 1 = rs.length := by simp
  rw [hlr] at hcut1
  have hl1 : (0 : Int) < ((v :: rs).length : Int) := by simp only [List.length_cons]; omega
  have hl2 : (1 : Int) ≤ ((v :: rs).length : Int) := by simp only [List.length_cons]; omega
  have hvv : v.toList = vRaw := by rw [Lib.toList_data]; exact hv
  have t_set : (v.toList == ([115, 101, 116] : List UInt8)) = false := by rw [hvv]; rfl
  have t_count : (v.toList == ([99, 111, 117, 110, 116] : List UInt8)) = false := by rw [hvv]; rfl
  have t_raw : (v.toList == ([114, 97, 119] : List UInt8)) = true := by rw [hvv]; rfl
  have hna : namedRef v.data.toList = false := by rw [hv]; rfl
  have hby : bytesRef v.data.toList = true := by rw [hv]; rfl
  have hrc0 : ∀ W : World, Kd.string.C W (some ⟨b, off, none⟩) (v :: rs).length (v :: rs) → Kd.string.C W A' rs.length rs := hcutC
  have HNA := Lib.hid hna
  have HBY := Lib.hid hby
  have HC := Lib.hid hC
  have HR0 := Lib.hid hrc0
  have hro : readRef (v.data.toList :: rs.map (·.data.toList)) = (hexOf x.data.toList).map fun b => ⟨0, v.data.toList, [], [], b⟩ := by
    rw [readRef_cons, if_neg (by rw [HNA.out]; simp)]
    unfold restRef
    rw [if_pos HBY.out, hrs]
    show (if x.data.toList.length % 2 = 0 then (hexOf x.data.toList).map _ else none) = _
    rw [if_pos (by rw [← Lib.size_eq]; omega)]
  have hhx := hexOf_eq m x.data.toList (by rw [← Lib.size_eq]; exact hm)
  have HHX := Lib.hid hhx
  have HRO := Lib.hid hro
  have hone : rs.length = 1 := by rw [hrs]; rfl
  obtain ⟨ad, hAd, hcell⟩ := Kd.at_string (hrc0 w hC) 0 (by omega) (by omega)
  subst hAd
  have hcell1 : w.cell? ad = some (.string x) := by cases ad; rw [hrs] at hcell; exact hcell
  have hadl : ad.block < w.heap.size := World.block_lt_of_cell? w ad hcell1
  have hcw : ∀ o o2 : Obj, ((w.alloc o).alloc o2).cell? ad = some (.string x) := fun o o2 => (World.cell?_alloc_lt _ o2 ad (by rw [World.size_alloc]; omega)).trans ((World.cell?_alloc_lt w o ad hadl).trans hcell1)
  have hodd : ((x.size : Int) % 2 != 0) = false := by rw [bne_eq_false_iff_eq]; omega
  have HM := Lib.hid hm
  have HXS := Lib.hid hxs
  have HCE := Lib.hid hcell1
  rw [hone] at hcut1
  generalize hlen : (v :: rs).length = len at hcut1 hl1 hl2 ⊢
  clear c0 hC hcut hcutC hcutB hlr hna hby hrc0 hcap hvv hv hlen hro hcell hcell1 hrs hhx hm hxs
  go_enter Tryz.func24, Tryz.ntmps24
  go_wp2
  obtain ⟨W0, hW0⟩ : ∃ W0, (w.alloc (.cells #[.int .i64 0, .string ⟨#[]⟩, .slice none 0 0, .slice none 0 0, .slice none 0 0] 38)).alloc (.cells #[.int .i64 0, .string v, .slice none 0 0, .slice none 0 0, .slice none 0 0] 38) = W0 := ⟨_, rfl⟩
  have q0 : W0.heap[w.heap.size]? = some (.cells #[.int .i64 0, .string ⟨#[]⟩, .slice none 0 0, .slice none 0 0, .slice none 0 0] 38 (0, 0)) := by
    rw [← hW0]; exact up _ (fresh w _ rfl)
  have q1 : W0.heap[w.heap.size + 1]? = some (.cells #[.int .i64 0, .string v, .slice none 0 0, .slice none 0 0, .slice none 0 0] 38 (0, 0)) := by
    rw [← hW0]; exact fresh _ _ (by simp)
  have qb : Below w.heap.size w W0 := by rw [← hW0]; exact ((Below.refl _ w).alloc (Nat.le_refl _) _).alloc (by simp) _
  have qs : w.heap.size + 2 ≤ W0.heap.size := by rw [← hW0]; simp
  rw [hW0]
  have Q0 := Lib.hid q0
  have Q1 := Lib.hid q1
  have QB := Lib.hid qb
  clear q0 q1 qb hW0 hcw
  go_loopw [7] (fun i wr => ∃ (k j : Nat), k ≤ m ∧ i = .int .i64 (j : Int) ∧ Aside0 (j = 2 * k) ∧ RB w v x.data.toList k wr) (fun i _ => 2 * m - (intOf i).toNat)
  case atStart => exact ⟨0, 0, Nat.zero_le _, rfl, ⟨rfl⟩, _, Q0.out, Q1.out, Kd.R_nil _ _ _ _ _, QB.out, by omega, ⟨fun q hq => by omega⟩⟩
  case round =>
    obtain ⟨k, j, hk, rfl, HJ, vB, hb0, hb1, hR, hbl, hsz2, HOK⟩ := hrel
    have cx : wr.cell? ad = some (.string x) := (hbl.cell hadl).trans HCE.out
    have HR := Lib.hid hR
    have HB0 := Lib.hid hb0
    have HB1 := Lib.hid hb1
    have HBL := Lib.hid hbl
    by_cases hkn : k < m
    · have hi1 : (j : Int) < (x.size : Int) := by have := HM.out; have := HJ.out; omega
      have hi2 : (j : Int) + 1 < (x.size : Int) := by have := HM.out; have := HJ.out; omega
      have hi0 : (0 : Int) ≤ (j : Int) := by omega
      have hi3 : (0 : Int) ≤ (j : Int) + 1 := by omega
      have hj63 : (j : Int) ≤ 140737488351232 := small_j HXS.out hi1
      have hx1 : bt x (j : Int) = ((x.data.toList.getD j 0).toNat : Int) := bt_nat x j (by omega)
      have hx2 : bt x ((j : Int) + 1) = ((x.data.toList.getD (j + 1) 0).toNat : Int) := bt_nat x (j + 1) (by omega)
      have ht1 := bt_at x (j : Int)
      have ht2 := bt_at x ((j : Int) + 1)
      rw [hx1] at ht1
      rw [hx2] at ht2
      clear hR hb0 hb1 hbl hx1 hx2
      go_wp2
      refine wp_region_quiet_lit (by kernel_rfl) (by kernel_rfl) ?_
      repeat (go_big_quiet_step ((go_at_call 42; exact digit_quiet _ _ _)))
      refine wpQuiet_nil ?_
      rintro _ ⟨nq, rfl⟩
      have hpv : pv x.data.toList k = hexVal (x[j]'(by omega)) * 16 + hexVal (x[j + 1]'(by omega)) := by unfold pv; rw [byte_at, byte_at, HJ.out]
      have hpo : pok x.data.toList k ↔ 0 ≤ hexVal (x[j]'(by omega)) ∧ 0 ≤ hexVal (x[j + 1]'(by omega)) := by unfold pok; rw [byte_at, byte_at, HJ.out]
      have hr0 := hexVal_range (x[j]'(by omega))
      have hr1 := hexVal_range (x[j + 1]'(by omega))
      generalize hexVal (x[j]'(by omega)) = x0 at *
      generalize hexVal (x[j + 1]'(by omega)) = x1 at *
      have HPV := Lib.hid hpv
      have HPO := Lib.hid hpo
      have hkm : k < m := hkn
      have HKM := Lib.hid hkm
      clear hpv hpo ht1 ht2 hkn hkm
      have bad : ¬ pok x.data.toList k → readRef (v.data.toList :: rs.map (·.data.toList)) = none := fun h => by
        rw [HRO.out, HHX.out.2 (fun ha => h (ha k HKM.out))]; rfl
      have BAD := Lib.hid bad
      have hln : ((List.range k).map (pv x.data.toList)).length = k := by simp
      have HLN := Lib.hid hln
      clear bad hln
      by_cases hx0 : x0 < 0
      · obtain ⟨A2, c2, rfl⟩ := Kd.R_slice HR.out
        obtain ⟨⟨k0, k1, k2, k3, k4⟩, ⟨f0, f1, f2, f3, f4⟩⟩ := cells38 HB1.out
        obtain ⟨⟨d0, d1, d2, d3, d4⟩, ⟨e0, e1, e2, e3, e4⟩⟩ := cells38 HB0.out
        go_wp2
        refine bodyPost_ret (results24 _ _ w.heap.size _ _ _ _ _ _ rfl rfl (set5_heap' (w := wr.drewN nq) HB0.out)) rfl ?_
        rw [BAD.out (fun h => by have := HPO.out.1 h; omega)]
        have hb := pw_below_drewN HBL.out nq
        exact ⟨hb.grown (set5_grown _ w.heap.size _ _ _ _ _) hb.size (fun k e => by cases e; exact Nat.le_refl _), _, _, _, _, _, _, _, _, _, _, _, rfl⟩
      · by_cases hx1 : x1 < 0
        · obtain ⟨A2, c2, rfl⟩ := Kd.R_slice HR.out
          obtain ⟨⟨k0, k1, k2, k3, k4⟩, ⟨f0, f1, f2, f3, f4⟩⟩ := cells38 HB1.out
          obtain ⟨⟨d0, d1, d2, d3, d4⟩, ⟨e0, e1, e2, e3, e4⟩⟩ := cells38 HB0.out
          go_wp2
          refine bodyPost_ret (results24 _ _ w.heap.size _ _ _ _ _ _ rfl rfl (set5_heap' (w := wr.drewN nq) HB0.out)) rfl ?_
          rw [BAD.out (fun h => by have := HPO.out.1 h; omega)]
          have hb := pw_below_drewN HBL.out nq
          exact ⟨hb.grown (set5_grown _ w.heap.size _ _ _ _ _) hb.size (fun k e => by cases e; exact Nat.le_refl _), _, _, _, _, _, _, _, _, _, _, _, rfl⟩
        · have hby1 : (16 * x0 + x1) % 256 = 16 * x0 + x1 := by omega
          have hkb : k ≤ 140737488351232 := by have := HKM.out; have := HM.out; have := HXS.out; omega
          have k4 : wr.cell? ⟨w.heap.size + 1, 4, none⟩ = some vB := blk_cell HB1.out 4
          have hown : ∀ q, vB.ownBlock = some q → w.heap.size + 2 ≤ q := HR.out.1
          have HOW := Lib.hid hown
          have hlim : (((List.range k).map (pv x.data.toList)).length + 1) * 1 ≤ 140737488355328 := by rw [HLN.out]; omega
          have HLI := Lib.hid hlim
          have hpk : pv x.data.toList k = 16 * x0 + x1 := by rw [HPV.out]; omega
          have HPK := Lib.hid hpk
          have hok1 : 0 ≤ x0 ∧ 0 ≤ x1 := by omega
          have HOK1 := Lib.hid hok1
          clear hown hlim hpk hok1
          go_wp2_with (at_builtin; refine Kd.R_append (Kd.int .u8) (w0 := wr.drewN nq) w.heap.size rfl (.tmp 98) (.tmp 104) 35 5 (.int .u8 0) 1 rfl Tryz.underlying35 info5 rfl (by decide) (by omega) vB ((List.range k).map (pv x.data.toList)) (16 * x0 + x1) [.int .u8 (16 * x0 + x1)] (fun q => w.heap.size + 2 ≤ q) (fun _ => False) rfl rfl ?aP (fun _ hk => hk.elim) ?aF ?aO ?aB ?aS ?aL ?_; (case aP => exact rfl); (case aF => (intro q hq; have hq' : wr.heap.size ≤ q := hq; omega)); (case aO => exact HR.out); (case aB => exact Below.refl _ _); (case aS => exact HBL.out.size); (case aL => exact HLI.out); intro v1 w2 ho hb2 hg2 hat; obtain ⟨A1, q1, rfl⟩ := Kd.R_slice ho; have hne := fun (g : Nat) (hg : g < w.heap.size + 2) (e : some g = vB.ownBlock) => (by have := HOW.out g e.symm; omega : False); have hk0 := blk_grown (w := wr.drewN nq) HB0.out hg2 (hne _ (by omega)); have hk1 := blk_grown (w := wr.drewN nq) HB1.out hg2 (hne _ (by omega)); have c4 : w2.cell? ⟨w.heap.size + 1, 4, none⟩ = some vB := blk_cell hk1 4; have f4 := blk_frozen hk1 4; have HK0b := Lib.hid hk0; have HK1b := Lib.hid hk1; have HO := Lib.hid ho; have HG2 := Lib.hid hg2; clear hk0 hk1 ho hg2 hat hb2 hne)
          go_roundw
          case rel =>
            refine ⟨k + 1, j + 2, by have := HKM.out; omega, by go_num, ⟨by have := HJ.out; omega⟩, _, blk_far HK0b.out (by simp) _, blk_set HK1b.out 4 _, ?_, ?_, ?_, ⟨fun q hq => ?_⟩⟩
            · have h := Kd.R_set HO.out HK1b.out (by simp [Kd.int, Kd.scalar]) 4 (.slice A1 (k + 1) q1)
              rw [← HPK.out] at h
              rw [List.range_succ, List.map_append, List.map_singleton]
              simpa using h
            · have hb := pw_below_drewN HBL.out nq
              exact (hb.grown HG2.out hb.size (fun q e => by have := HOW.out q e; omega)).setCell (by simp) _
            · have h2 : wr.heap.size ≤ w2.heap.size := HG2.out.size
              simp; omega
            · rcases Nat.lt_succ_iff_lt_or_eq.1 hq with h | rfl
              · exact HOK.out q h
              · exact HPO.out.2 HOK1.out
          case measure => have := HKM.out; have := HJ.out; simp [intOf]; omega
    · obtain rfl : k = m := by omega
      obtain ⟨A2, c2, rfl⟩ := Kd.R_slice hR
      obtain ⟨⟨k0, k1, k2, k3, k4⟩, _⟩ := cells38 hb1
      obtain ⟨⟨d0, d1, d2, d3, d4⟩, ⟨e0, e1, e2, e3, e4⟩⟩ := cells38 hb0
      have hend : ¬ (j : Int) < (x.size : Int) := by have := HM.out; have := HJ.out; omega
      clear hR hb0 hb1 hbl
      go_wp2
      refine bodyPost_ret (results24 _ _ w.heap.size _ _ _ _ _ _ rfl rfl (set5_heap' HB0.out)) rfl ?_
      rw [HRO.out, HHX.out.1 HOK.out]
      have hg := set5_grown wr w.heap.size (.int .i64 0) (.string v) (.slice none 0 0) (.slice none 0 0) (.slice A2 ((List.range k).map (pv x.data.toList)).length c2)
      have hR2 := Kd.R_mono (R_past HR.out HB0.out (by simp [Kd.int, Kd.scalar]) hg) (ok' := fun _ => True) (fun _ _ => trivial)
      simp only [List.length_map, List.length_range] at hR2 hg
      refine ⟨HBL.out.grown hg HBL.out.size (fun k e => by cases e; exact Nat.le_refl _), none, 0, 0, none, 0, 0, A2, _, c2, ?_, win_nil _ _, Kd.R_nil _ _ _ _ _, hR2⟩
      rw [mk_of]

set_option maxRecDepth 100000 in
set_option maxHeartbeats 1000000 in
theorem read_config_many (b off cap : Nat) (v : ByteArray) (rs : List ByteArray) (w : World) (hC : Kd.string.C w (some ⟨b, off, none⟩) (v :: rs).length (v :: rs)) (hcap : (v :: rs).length ≤ cap)
    (hbad : rs.length ≠ 1) (hv : v.data.toList = vConfig) :
    Calls Tryz.prog 24 #[.slice (some ⟨b, off, none⟩) (v :: rs).length cap] w (ReadPost w (some ⟨b, off, none⟩) (v :: rs) (readRef (v.data.toList :: rs.map (·.data.toList)))) := by
  obtain ⟨ad, e0, c0⟩ := Kd.at_string hC 0 (by omega) (by simp only [List.length_cons]; omega)
  cases e0
  have hlt : b < w.heap.size := World.block_lt_of_cell? w _ c0
  have c0' : w.cell? ⟨b, off, none⟩ = some (.string v) := c0
  obtain ⟨A', hcut, hcutC, hcutB⟩ := cutS' (v :: rs) b off cap 1 (by simp) hcap
  have hcut1 : ∀ W : World, (Instr.slice 33 (.slice (some ⟨b, off, none⟩) (v :: rs).length cap) (some (.int .i64 1)) none none).run Tryz.prog W = .ok (.slice A' ((v :: rs).length - 1) (cap - 1)) W := hcut
  have hlr : (v :: rs).length - 1 = rs.length := by simp
  rw [hlr] at hcut1
  have hl1 : (0 : Int) < ((v :: rs).length : Int) := by simp only [List.length_cons]; omega
  have hl2 : (1 : Int) ≤ ((v :: rs).length : Int) := by simp only [List.length_cons]; omega
  have hvv : v.toList = vConfig := by rw [Lib.toList_data]; exact hv
  have t_set : (v.toList == ([115, 101, 116] : List UInt8)) = false := by rw [hvv]; rfl
  have t_count : (v.toList == ([99, 111, 117, 110, 116] : List UInt8)) = false := by rw [hvv]; rfl
  have t_raw : (v.toList == ([114, 97, 119] : List UInt8)) = false := by rw [hvv]; rfl
  have t_config : (v.toList == ([99, 111, 110, 102, 105, 103] : List UInt8)) = true := by rw [hvv]; rfl
  have hna : namedRef v.data.toList = false := by rw [hv]; rfl
  have hby : bytesRef v.data.toList = true := by rw [hv]; rfl
  have hrc0 : ∀ W : World, Kd.string.C W (some ⟨b, off, none⟩) (v :: rs).length (v :: rs) → Kd.string.C W A' rs.length rs := hcutC
  have HNA := Lib.hid hna
  have HBY := Lib.hid hby
  have HC := Lib.hid hC
  have HR0 := Lib.hid hrc0
  have hro : readRef (v.data.toList :: rs.map (·.data.toList)) = none := by
    rw [readRef_cons, if_neg (by rw [HNA.out]; simp)]
    unfold restRef
    rw [if_pos HBY.out]
    match rs, hbad with
    | [], _ => rfl
    | [x], h => simp at h
    | x :: y :: l, _ => rfl
  have HRO := Lib.hid hro
  have hne : (((rs.length : Nat) : Int) != 1) = true := by rw [bne_iff_ne]; omega
  generalize hlen : (v :: rs).length = len at hcut1 hl1 hl2 ⊢
  clear c0 hC hcut hcutC hcutB hlr hna hby hrc0 hcap hvv hv hlen hro
  go_enter Tryz.func24, Tryz.ntmps24
  go_wp2
  refine bodyPost_ret (results24 _ _ w.heap.size _ _ _ _ _ _ rfl rfl (up _ (fresh w _ rfl))) rfl ?_
  rw [HRO.out]
  exact ⟨((Below.refl _ w).alloc (Nat.le_refl _) _).alloc (by simp) _, _, _, _, _, _, _, _, _, _, _, _, rfl⟩

set_option maxRecDepth 100000 in
set_option maxHeartbeats 1000000 in
theorem read_config_odd (b off cap : Nat) (v x : ByteArray) (rs : List ByteArray) (hrs : rs = [x]) (w : World) (hC : Kd.string.C w (some ⟨b, off, none⟩) (v :: rs).length (v :: rs)) (hcap : (v :: rs).length ≤ cap)
    (hbad : x.size % 2 ≠ 0) (hv : v.data.toList = vConfig) :
    Calls Tryz.prog 24 #[.slice (some ⟨b, off, none⟩) (v :: rs).length cap] w (ReadPost w (some ⟨b, off, none⟩) (v :: rs) (readRef (v.data.toList :: rs.map (·.data.toList)))) := by
  obtain ⟨ad, e0, c0⟩ := Kd.at_string hC 0 (by omega) (by simp only [List.length_cons]; omega)
  cases e0
  have hlt : b < w.heap.size := World.block_lt_of_cell? w _ c0
  have c0' : w.cell? ⟨b, off, none⟩ = some (.string v) := c0
  obtain ⟨A', hcut, hcutC, hcutB⟩ := cutS' (v :: rs) b off cap 1 (by simp) hcap
  have hcut1 : ∀ W : World, (Instr.slice 33 (.slice (some ⟨b, off, none⟩) (v :: rs).length cap) (some (.int .i64 1)) none none).run Tryz.prog W = .ok (.slice A' ((v :: rs).length - 1) (cap - 1)) W := hcut
  have hlr : (v :: rs).length - 1 = rs.length := by simp
  rw [hlr] at hcut1
  have hl1 : (0 : Int) < ((v :: rs).length : Int) := by simp only [List.length_cons]; omega
  have hl2 : (1 : Int) ≤ ((v :: rs).length : Int) := by simp only [List.length_cons]; omega
  have hvv : v.toList = vConfig := by rw [Lib.toList_data]; exact hv
  have t_set : (v.toList == ([115, 101, 116] : List UInt8)) = false := by rw [hvv]; rfl
  have t_count : (v.toList == ([99, 111, 117, 110, 116] : List UInt8)) = false := by rw [hvv]; rfl
  have t_raw : (v.toList == ([114, 97, 119] : List UInt8)) = false := by rw [hvv]; rfl
  have t_config : (v.toList == ([99, 111, 110, 102, 105, 103] : List UInt8)) = true := by rw [hvv]; rfl
  have hna : namedRef v.data.toList = false := by rw [hv]; rfl
  have hby : bytesRef v.data.toList = true := by rw [hv]; rfl
  have hrc0 : ∀ W : World, Kd.string.C W (some ⟨b, off, none⟩) (v :: rs).length (v :: rs) → Kd.string.C W A' rs.length rs := hcutC
  have HNA := Lib.hid hna
  have HBY := Lib.hid hby
  have HC := Lib.hid hC
  have HR0 := Lib.hid hrc0
  have hro : readRef (v.data.toList :: rs.map (·.data.toList)) = none := by
    rw [readRef_cons, if_neg (by rw [HNA.out]; simp)]
    unfold restRef
    rw [if_pos HBY.out, hrs]
    show (if x.data.toList.length % 2 = 0 then (hexOf x.data.toList).map _ else none) = none
    rw [if_neg (by rw [← Lib.size_eq]; exact hbad)]
  have HRO := Lib.hid hro
  have hone : rs.length = 1 := by rw [hrs]; rfl
  obtain ⟨ad, hAd, hcell⟩ := Kd.at_string (hrc0 w hC) 0 (by omega) (by omega)
  subst hAd
  have hcell1 : w.cell? ad = some (.string x) := by cases ad; rw [hrs] at hcell; exact hcell
  have hadl : ad.block < w.heap.size := World.block_lt_of_cell? w ad hcell1
  have hcw : ∀ o o2 : Obj, ((w.alloc o).alloc o2).cell? ad = some (.string x) := fun o o2 => (World.cell?_alloc_lt _ o2 ad (by rw [World.size_alloc]; omega)).trans ((World.cell?_alloc_lt w o ad hadl).trans hcell1)
  have hodd : ((x.size : Int) % 2 != 0) = true := by rw [bne_iff_ne]; omega
  rw [hone] at hcut1
  generalize hlen : (v :: rs).length = len at hcut1 hl1 hl2 ⊢
  clear c0 hC hcut hcutC hcutB hlr hna hby hrc0 hcap hvv hv hlen hro hcell hcell1 hrs
  go_enter Tryz.func24, Tryz.ntmps24
  go_wp2
  refine bodyPost_ret (results24 _ _ w.heap.size _ _ _ _ _ _ rfl rfl (up _ (fresh w _ rfl))) rfl ?_
  rw [HRO.out]
  exact ⟨((Below.refl _ w).alloc (Nat.le_refl _) _).alloc (by simp) _, _, _, _, _, _, _, _, _, _, _, _, rfl⟩

set_option maxRecDepth 100000 in
set_option maxHeartbeats 2000000 in
theorem read_config_even (b off cap : Nat) (v x : ByteArray) (rs : List ByteArray) (hrs : rs = [x]) (m : Nat) (w : World) (hC : Kd.string.C w (some ⟨b, off, none⟩) (v :: rs).length (v :: rs)) (hcap : (v :: rs).length ≤ cap)
    (hm : x.size = 2 * m) (hxs : x.size ≤ 140737488351232) (hv : v.data.toList = vConfig) :
    Calls Tryz.prog 24 #[.slice (some ⟨b, off, none⟩) (v :: rs).length cap] w (ReadPost w (some ⟨b, off, none⟩) (v :: rs) (readRef (v.data.toList :: rs.map (·.data.toList)))) := by
  obtain ⟨ad, e0, c0⟩ := Kd.at_string hC 0 (by omega) (by simp only [List.length_cons]; omega)
  cases e0
  have hlt : b < w.heap.size := World.block_lt_of_cell? w _ c0
  have c0' : w.cell? ⟨b, off, none⟩ = some (.string v) := c0
  obtain ⟨A', hcut, hcutC, hcutB⟩ := cutS' (v :: rs) b off cap 1 (by simp) hcap
  have hcut1 : ∀ W : World, (Instr.slice 33 (.slice (some ⟨b, off, none⟩) (v :: rs).length cap) (some (.int .i64 1)) none none).run Tryz.prog W = .ok (.slice A' ((v :: rs).length - 1) (cap - 1)) W := hcut
  have hlr : (v :: rs).length - 1 = rs.length := by simp
  rw [hlr] at hcut1
  have hl1 : (0 : Int) < ((v :: rs).length : Int) := by simp only [List.length_cons]; omega
  have hl2 : (1 : Int) ≤ ((v :: rs).length : Int) := by simp only [List.length_cons]; omega
  have hvv : v.toList = vConfig := by rw [Lib.toList_data]; exact hv
  have t_set : (v.toList == ([115, 101, 116] : List UInt8)) = false := by rw [hvv]; rfl
  have t_count : (v.toList == ([99, 111, 117, 110, 116] : List UInt8)) = false := by rw [hvv]; rfl
  have t_raw : (v.toList == ([114, 97, 119] : List UInt8)) = false := by rw [hvv]; rfl
  have t_config : (v.toList == ([99, 111, 110, 102, 105, 103] : List UInt8)) = true := by rw [hvv]; rfl
  have hna : namedRef v.data.toList = false := by rw [hv]; rfl
  have hby : bytesRef v.data.toList = true := by rw [hv]; rfl
  have hrc0 : ∀ W : World, Kd.string.C W (some ⟨b, off, none⟩) (v :: rs).length (v :: rs) → Kd.string.C W A' rs.length rs := hcutC
  have HNA := Lib.hid hna
  have HBY := Lib.hid hby
  have HC := Lib.hid hC
  have HR0 := Lib.hid hrc0
  have hro : readRef (v.data.toList :: rs.map (·.data.toList)) = (hexOf x.data.toList).map fun b => ⟨0, v.data.toList, [], [], b⟩ := by
    rw [readRef_cons, if_neg (by rw [HNA.out]; simp)]
    unfold restRef
    rw [if_pos HBY.out, hrs]
    show (if x.data.toList.length % 2 = 0 then (hexOf x.data.toList).map _ else none) = _
    rw [if_pos (by rw [← Lib.size_eq]; omega)]
  have hhx := hexOf_eq m x.data.toList (by rw [← Lib.size_eq]; exact hm)
  have HHX := Lib.hid hhx
  have HRO := Lib.hid hro
  have hone : rs.length = 1 := by rw [hrs]; rfl
  obtain ⟨ad, hAd, hcell⟩ := Kd.at_string (hrc0 w hC) 0 (by omega) (by omega)
  subst hAd
  have hcell1 : w.cell? ad = some (.string x) := by cases ad; rw [hrs] at hcell; exact hcell
  have hadl : ad.block < w.heap.size := World.block_lt_of_cell? w ad hcell1
  have hcw : ∀ o o2 : Obj, ((w.alloc o).alloc o2).cell? ad = some (.string x) := fun o o2 => (World.cell?_alloc_lt _ o2 ad (by rw [World.size_alloc]; omega)).trans ((World.cell?_alloc_lt w o ad hadl).trans hcell1)
  have hodd : ((x.size : Int) % 2 != 0) = false := by rw [bne_eq_false_iff_eq]; omega
  have HM := Lib.hid hm
  have HXS := Lib.hid hxs
  have HCE := Lib.hid hcell1
  rw [hone] at hcut1
  generalize hlen : (v :: rs).length = len at hcut1 hl1 hl2 ⊢
  clear c0 hC hcut hcutC hcutB hlr hna hby hrc0 hcap hvv hv hlen hro hcell hcell1 hrs hhx hm hxs
  go_enter Tryz.func24, Tryz.ntmps24
  go_wp2
  obtain ⟨W0, hW0⟩ : ∃ W0, (w.alloc (.cells #[.int .i64 0, .string ⟨#[]⟩, .slice none 0 0, .slice none 0 0, .slice none 0 0] 38)).alloc (.cells #[.int .i64 0, .string v, .slice none 0 0, .slice none 0 0, .slice none 0 0] 38) = W0 := ⟨_, rfl⟩
  have q0 : W0.heap[w.heap.size]? = some (.cells #[.int .i64 0, .string ⟨#[]⟩, .slice none 0 0, .slice none 0 0, .slice none 0 0] 38 (0, 0)) := by
    rw [← hW0]; exact up _ (fresh w _ rfl)
  have q1 : W0.heap[w.heap.size + 1]? = some (.cells #[.int .i64 0, .string v, .slice none 0 0, .slice none 0 0, .slice none 0 0] 38 (0, 0)) := by
    rw [← hW0]; exact fresh _ _ (by simp)
  have qb : Below w.heap.size w W0 := by rw [← hW0]; exact ((Below.refl _ w).alloc (Nat.le_refl _) _).alloc (by simp) _
  have qs : w.heap.size + 2 ≤ W0.heap.size := by rw [← hW0]; simp
  rw [hW0]
  have Q0 := Lib.hid q0
  have Q1 := Lib.hid q1
  have QB := Lib.hid qb
  clear q0 q1 qb hW0 hcw
  go_loopw [7] (fun i wr => ∃ (k j : Nat), k ≤ m ∧ i = .int .i64 (j : Int) ∧ Aside0 (j = 2 * k) ∧ RB w v x.data.toList k wr) (fun i _ => 2 * m - (intOf i).toNat)
  case atStart => exact ⟨0, 0, Nat.zero_le _, rfl, ⟨rfl⟩, _, Q0.out, Q1.out, Kd.R_nil _ _ _ _ _, QB.out, by omega, ⟨fun q hq => by omega⟩⟩
  case round =>
    obtain ⟨k, j, hk, rfl, HJ, vB, hb0, hb1, hR, hbl, hsz2, HOK⟩ := hrel
    have cx : wr.cell? ad = some (.string x) := (hbl.cell hadl).trans HCE.out
    have HR := Lib.hid hR
    have HB0 := Lib.hid hb0
    have HB1 := Lib.hid hb1
    have HBL := Lib.hid hbl
    by_cases hkn : k < m
    · have hi1 : (j : Int) < (x.size : Int) := by have := HM.out; have := HJ.out; omega
      have hi2 : (j : Int) + 1 < (x.size : Int) := by have := HM.out; have := HJ.out; omega
      have hi0 : (0 : Int) ≤ (j : Int) := by omega
      have hi3 : (0 : Int) ≤ (j : Int) + 1 := by omega
      have hj63 : (j : Int) ≤ 140737488351232 := small_j HXS.out hi1
      have hx1 : bt x (j : Int) = ((x.data.toList.getD j 0).toNat : Int) := bt_nat x j (by omega)
      have hx2 : bt x ((j : Int) + 1) = ((x.data.toList.getD (j + 1) 0).toNat : Int) := bt_nat x (j + 1) (by omega)
      have ht1 := bt_at x (j : Int)
      have ht2 := bt_at x ((j : Int) + 1)
      rw [hx1] at ht1
      rw [hx2] at ht2
      clear hR hb0 hb1 hbl hx1 hx2
      go_wp2
      refine wp_region_quiet_lit (by kernel_rfl) (by kernel_rfl) ?_
      repeat (go_big_quiet_step ((go_at_call 42; exact digit_quiet _ _ _)))
      refine wpQuiet_nil ?_
      rintro _ ⟨nq, rfl⟩
      have hpv : pv x.data.toList k = hexVal (x[j]'(by omega)) * 16 + hexVal (x[j + 1]'(by omega)) := by unfold pv; rw [byte_at, byte_at, HJ.out]
      have hpo : pok x.data.toList k ↔ 0 ≤ hexVal (x[j]'(by omega)) ∧ 0 ≤ hexVal (x[j + 1]'(by omega)) := by unfold pok; rw [byte_at, byte_at, HJ.out]
      have hr0 := hexVal_range (x[j]'(by omega))
      have hr1 := hexVal_range (x[j + 1]'(by omega))
      generalize hexVal (x[j]'(by omega)) = x0 at *
      generalize hexVal (x[j + 1]'(by omega)) = x1 at *
      have HPV := Lib.hid hpv
      have HPO := Lib.hid hpo
      have hkm : k < m := hkn
      have HKM := Lib.hid hkm
      clear hpv hpo ht1 ht2 hkn hkm
      have bad : ¬ pok x.data.toList k → readRef (v.data.toList :: rs.map (·.data.toList)) = none := fun h => by
        rw [HRO.out, HHX.out.2 (fun ha => h (ha k HKM.out))]; rfl
      have BAD := Lib.hid bad
      have hln : ((List.range k).map (pv x.data.toList)).length = k := by simp
      have HLN := Lib.hid hln
      clear bad hln
      by_cases hx0 : x0 < 0
      · obtain ⟨A2, c2, rfl⟩ := Kd.R_slice HR.out
        obtain ⟨⟨k0, k1, k2, k3, k4⟩, ⟨f0, f1, f2, f3, f4⟩⟩ := cells38 HB1.out
        obtain ⟨⟨d0, d1, d2, d3, d4⟩, ⟨e0, e1, e2, e3, e4⟩⟩ := cells38 HB0.out
        go_wp2
        refine bodyPost_ret (results24 _ _ w.heap.size _ _ _ _ _ _ rfl rfl (set5_heap' (w := wr.drewN nq) HB0.out)) rfl ?_
        rw [BAD.out (fun h => by have := HPO.out.1 h; omega)]
        have hb := pw_below_drewN HBL.out nq
        exact ⟨hb.grown (set5_grown _ w.heap.size _ _ _ _ _) hb.size (fun k e => by cases e; exact Nat.le_refl _), _, _, _, _, _, _, _, _, _, _, _, rfl⟩
      · by_cases hx1 : x1 < 0
        · obtain ⟨A2, c2, rfl⟩ := Kd.R_slice HR.out
          obtain ⟨⟨k0, k1, k2, k3, k4⟩, ⟨f0, f1, f2, f3, f4⟩⟩ := cells38 HB1.out
          obtain ⟨⟨d0, d1, d2, d3, d4⟩, ⟨e0, e1, e2, e3, e4⟩⟩ := cells38 HB0.out
          go_wp2
          refine bodyPost_ret (results24 _ _ w.heap.size _ _ _ _ _ _ rfl rfl (set5_heap' (w := wr.drewN nq) HB0.out)) rfl ?_
          rw [BAD.out (fun h => by have := HPO.out.1 h; omega)]
          have hb := pw_below_drewN HBL.out nq
          exact ⟨hb.grown (set5_grown _ w.heap.size _ _ _ _ _) hb.size (fun k e => by cases e; exact Nat.le_refl _), _, _, _, _, _, _, _, _, _, _, _, rfl⟩
        · have hby1 : (16 * x0 + x1) % 256 = 16 * x0 + x1 := by omega
          have hkb : k ≤ 140737488351232 := by have := HKM.out; have := HM.out; have := HXS.out; omega
          have k4 : wr.cell? ⟨w.heap.size + 1, 4, none⟩ = some vB := blk_cell HB1.out 4
          have hown : ∀ q, vB.ownBlock = some q → w.heap.size + 2 ≤ q := HR.out.1
          have HOW := Lib.hid hown
          have hlim : (((List.range k).map (pv x.data.toList)).length + 1) * 1 ≤ 140737488355328 := by rw [HLN.out]; omega
          have HLI := Lib.hid hlim
          have hpk : pv x.data.toList k = 16 * x0 + x1 := by rw [HPV.out]; omega
          have HPK := Lib.hid hpk
          have hok1 : 0 ≤ x0 ∧ 0 ≤ x1 := by omega
          have HOK1 := Lib.hid hok1
          clear hown hlim hpk hok1
          go_wp2_with (at_builtin; refine Kd.R_append (Kd.int .u8) (w0 := wr.drewN nq) w.heap.size rfl (.tmp 98) (.tmp 104) 35 5 (.int .u8 0) 1 rfl Tryz.underlying35 info5 rfl (by decide) (by omega) vB ((List.range k).map (pv x.data.toList)) (16 * x0 + x1) [.int .u8 (16 * x0 + x1)] (fun q => w.heap.size + 2 ≤ q) (fun _ => False) rfl rfl ?aP (fun _ hk => hk.elim) ?aF ?aO ?aB ?aS ?aL ?_; (case aP => exact rfl); (case aF => (intro q hq; have hq' : wr.heap.size ≤ q := hq; omega)); (case aO => exact HR.out); (case aB => exact Below.refl _ _); (case aS => exact HBL.out.size); (case aL => exact HLI.out); intro v1 w2 ho hb2 hg2 hat; obtain ⟨A1, q1, rfl⟩ := Kd.R_slice ho; have hne := fun (g : Nat) (hg : g < w.heap.size + 2) (e : some g = vB.ownBlock) => (by have := HOW.out g e.symm; omega : False); have hk0 := blk_grown (w := wr.drewN nq) HB0.out hg2 (hne _ (by omega)); have hk1 := blk_grown (w := wr.drewN nq) HB1.out hg2 (hne _ (by omega)); have c4 : w2.cell? ⟨w.heap.size + 1, 4, none⟩ = some vB := blk_cell hk1 4; have f4 := blk_frozen hk1 4; have HK0b := Lib.hid hk0; have HK1b := Lib.hid hk1; have HO := Lib.hid ho; have HG2 := Lib.hid hg2; clear hk0 hk1 ho hg2 hat hb2 hne)
          go_roundw
          case rel =>
            refine ⟨k + 1, j + 2, by have := HKM.out; omega, by go_num, ⟨by have := HJ.out; omega⟩, _, blk_far HK0b.out (by simp) _, blk_set HK1b.out 4 _, ?_, ?_, ?_, ⟨fun q hq => ?_⟩⟩
            · have h := Kd.R_set HO.out HK1b.out (by simp [Kd.int, Kd.scalar]) 4 (.slice A1 (k + 1) q1)
              rw [← HPK.out] at h
              rw [List.range_succ, List.map_append, List.map_singleton]
              simpa using h
            · have hb := pw_below_drewN HBL.out nq
              exact (hb.grown HG2.out hb.size (fun q e => by have := HOW.out q e; omega)).setCell (by simp) _
            · have h2 : wr.heap.size ≤ w2.heap.size := HG2.out.size
              simp; omega
            · rcases Nat.lt_succ_iff_lt_or_eq.1 hq with h | rfl
              · exact HOK.out q h
              · exact HPO.out.2 HOK1.out
          case measure => have := HKM.out; have := HJ.out; simp [intOf]; omega
    · obtain rfl : k = m := by omega
      obtain ⟨A2, c2, rfl⟩ := Kd.R_slice hR
      obtain ⟨⟨k0, k1, k2, k3, k4⟩, _⟩ := cells38 hb1
      obtain ⟨⟨d0, d1, d2, d3, d4⟩, ⟨e0, e1, e2, e3, e4⟩⟩ := cells38 hb0
      have hend : ¬ (j : Int) < (x.size : Int) := by have := HM.out; have := HJ.out; omega
      clear hR hb0 hb1 hbl
      go_wp2
      refine bodyPost_ret (results24 _ _ w.heap.size _ _ _ _ _ _ rfl rfl (set5_heap' HB0.out)) rfl ?_
      rw [HRO.out, HHX.out.1 HOK.out]
      have hg := set5_grown wr w.heap.size (.int .i64 0) (.string v) (.slice none 0 0) (.slice none 0 0) (.slice A2 ((List.range k).map (pv x.data.toList)).length c2)
      have hR2 := Kd.R_mono (R_past HR.out HB0.out (by simp [Kd.int, Kd.scalar]) hg) (ok' := fun _ => True) (fun _ _ => trivial)
      simp only [List.length_map, List.length_range] at hR2 hg
      refine ⟨HBL.out.grown hg HBL.out.size (fun k e => by cases e; exact Nat.le_refl _), none, 0, 0, none, 0, 0, A2, _, c2, ?_, win_nil _ _, Kd.R_nil _ _ _ _ _, hR2⟩
      rw [mk_of]
end Go.Proofs.YtfiacgkhkonilaaGreatDoor
