/- ScriptTexts: for every command, on every schedule, the law answers true and leaves the command as it was; the variables that the card lists are tied to the program's text. -/
import Derived.Test.YtfiacgkhkonilaaGreatDoorTextsPart7
import Derived.WalkKit
import Derived.LaidEql
import Derived.Stop.Asserts
import Derived.RowKitTokens
import Derived.SevenTiedAt
import Derived.SliceStrings
import Derived.Carry
/- The document's Read is the plain readCmd. -/
namespace Go.Proofs.YtfiacgkhkonilaaGreatDoor
open Go Go.RowKit Go.Proofs.YtfiacgkhkonilaaGreatDoorW.PrintWords

theorem read_any (b off cap : Nat) (v : ByteArray) (rs : List ByteArray) (w : World) (hC : Kd.string.C w (some ⟨b, off, none⟩) (v :: rs).length (v :: rs)) (hcap : (v :: rs).length ≤ cap)
    (hl : rs.length < 4294967295) (hsz : ∀ x ∈ rs, x.size ≤ 140737488351232) (hne : ∀ x ∈ rs, x.data.toList ≠ []) :
    Calls Tryz.prog 24 #[.slice (some ⟨b, off, none⟩) (v :: rs).length cap] w (ReadPost w (some ⟨b, off, none⟩) (v :: rs) (readCmd (v.data.toList :: rs.map (·.data.toList)))) := by
  rw [← readRef_eq _ _ (fun x hx => by obtain ⟨y, hy, rfl⟩ := List.mem_map.1 hx; exact hne y hy)]
  by_cases h1 : v.data.toList = vRaw
  · by_cases h : rs.length = 1
    · obtain ⟨x, rfl⟩ := List.length_eq_one_iff.1 h
      have hx := hsz x (by simp)
      by_cases h2 : x.size % 2 = 0
      · exact read_raw_even b off cap v x [x] rfl (x.size / 2) w hC hcap (by omega) hx h1
      · exact read_raw_odd b off cap v x [x] rfl w hC hcap h2 h1
    · exact read_raw_many b off cap v rs w hC hcap h h1
  by_cases h2 : v.data.toList = vConfig
  · by_cases h : rs.length = 1
    · obtain ⟨x, rfl⟩ := List.length_eq_one_iff.1 h
      have hx := hsz x (by simp)
      by_cases h3 : x.size % 2 = 0
      · exact read_config_even b off cap v x [x] rfl (x.size / 2) w hC hcap (by omega) hx h2
      · exact read_config_odd b off cap v x [x] rfl w hC hcap h3 h2
    · exact read_config_many b off cap v rs w hC hcap h h2
  have hb : bytesRef v.data.toList = false := by simp [bytesRef, h1, h2]
  by_cases h3 : v.data.toList = vSet
  · match rs, hC, hcap, hl with
    | [], hC, hcap, hl => exact read_set_none b off cap v [] w hC hcap (.inl rfl) h3 hl
    | nm :: r, hC, hcap, hl =>
      by_cases h : isName nm.data.toList = true
      · exact read_set_name b off cap v nm r w hC hcap h h3 (by simp at hl; omega)
      · exact read_set_none b off cap v (nm :: r) w hC hcap (.inr ⟨nm, r, rfl, by simpa using h⟩) h3 hl
  by_cases h4 : v.data.toList = vCount
  · match rs, hC, hcap, hl with
    | [], hC, hcap, hl => exact read_count_none b off cap v [] w hC hcap (.inl rfl) h4 hl
    | nm :: r, hC, hcap, hl =>
      by_cases h : isName nm.data.toList = true
      · exact read_count_name b off cap v nm r w hC hcap h h4 (by simp at hl; omega)
      · exact read_count_none b off cap v (nm :: r) w hC hcap (.inr ⟨nm, r, rfl, by simpa using h⟩) h4 hl
  have hn : namedRef v.data.toList = false := by simp [namedRef, h3, h4]
  exact read_plain b off cap v rs w hC hcap hn hb hl
end Go.Proofs.YtfiacgkhkonilaaGreatDoor

/- The walk of the document's May. -/
namespace Go.Proofs.YtfiacgkhkonilaaGreatDoor
open Go Go.RowKit Go.Proofs.YtfiacgkhkonilaaGreatDoorW.PrintWords Go.Proofs.YtfiacgkhkonilaaGreatDoorW.PrintLast Go.Proofs.YtfiacgkhkonilaaGreatDoorW.PrintMore
open Go.Proofs.YtfiacgkhkonilaaGreatDoor.PalikeCommand

theorem words16 (s : ByteArray) (w : World) (hs : s.size < 8796093022208) : Calls Tryz.prog 23 #[.string s] w fun e w' => ∃ v, e = .returned v ∧ Kd.string.R 9 w' w.heap.size (fun _ => True) v ((wordsOf s.data.toList).map mk) ∧ Below w.heap.size w w' :=
  Pwords.radomeref40_words.calls _ s _ w (words_law s hs)
def namesTo (ws : List ByteArray) (k : Nat) : Prop := ((ws.take k).all fun x => isName x.data.toList) = true
def MW (w0 : World) (ws : List ByteArray) (i : Value) (wr : World) : Prop := ∃ k : Nat, k ≤ ws.length ∧ i = .int .i64 k ∧ namesTo ws k ∧ Below w0.heap.size w0 wr
set_option maxRecDepth 100000 in
set_option maxHeartbeats 2000000 in
theorem may_call (l : Int) (v : ByteArray) (A1 A2 A3 : Option Addr) (c1 c2 c3 : Nat) (ws : List ByteArray) (ns bs : List Int) (w : World)
    (hC1 : Kd.string.C w A1 ws.length ws) (hC2 : (Kd.int .i64).C w A2 ns.length ns) (hC3 : (Kd.int .u8).C w A3 bs.length bs) (hl1 : ws.length ≤ c1) (hl2 : ns.length ≤ c2) (hl3 : bs.length ≤ c3)
    (hs0 : v.size ≤ 1000000) (hs1 : ws.length ≤ 1000000) (hs2 : ns.length ≤ 1000000) (hs3 : bs.length ≤ 1000000) (hn : ∀ n ∈ ns, -9223372036854775808 ≤ n ∧ n ≤ 9223372036854775807) (hb : ∀ b ∈ bs, 0 ≤ b ∧ b < 256)
    (hsz : ∀ x ∈ ws, x.size ≤ 1000000) :
    Calls Tryz.prog 16 #[.agg #[.int .i64 l, .string v, .slice A1 ws.length c1, .slice A2 ns.length c2, .slice A3 bs.length c3]] w fun e w' => e = .returned (.bool (mayOk v ws ns bs)) ∧ Below w.heap.size w w' := by
  obtain ⟨o, ho⟩ : ∃ o : Obj, o = .cells #[.int .i64 l, .string v, .slice A1 ws.length c1, .slice A2 ns.length c2, .slice A3 bs.length c3] 38 := ⟨_, rfl⟩
  have hb0 : Below w.heap.size w (w.alloc o) := (Below.refl w.heap.size w).alloc (Nat.le_refl _) _
  have hbx := blk_new w o
  have H1 := Lib.hid (Kd.C_below hC1 hb0)
  have H2 := Lib.hid (Kd.C_below hC2 hb0)
  have H3 := Lib.hid (Kd.C_below hC3 hb0)
  have HN := Lib.hid hn
  have HB := Lib.hid hb
  have HSZ := Lib.hid hsz
  have HBX := Lib.hid hbx
  have HB0 := Lib.hid hb0
  have hz0 : (w.alloc o).heap.size = w.heap.size + 1 := World.size_alloc _ _
  have HZ0 := Lib.hid hz0
  clear hC1 hC2 hC3 hn hb hsz hbx hb0 hz0
  have hm : ∀ b, isName v.data.toList = b → mayOk v ws ns bs = (b && ((ws.all fun x => isName x.data.toList) && match readCmd (wordsOf (lineVal v ws ns bs)) with
    | none => false
    | some d => sameParts d v ws ns bs)) := fun b h => by rw [← h]; rfl
  have HM := Lib.hid hm
  have hnm : ∀ s W, Calls Tryz.prog 32 #[.string s] W fun e w' => e = .returned (.bool (isName s.data.toList)) ∧ Below W.heap.size W w' := fun s W => (ref_name s W).mono fun _ _ ⟨h, hd⟩ => ⟨h, drawn_below hd⟩
  have HNM := Lib.hid hnm
  clear hm hnm
  subst ho
  go_enter Tryz.func16, Tryz.ntmps16
  cases hv : isName v.data.toList
  · have HV := Lib.hid (HNM.out v)
    rw [hv] at HV
    have HV2 := Lib.hid (HM.out _ hv)
    clear hv
    go_wp2_with (go_at_call 32; refine (HV.out _).mono ?_; rintro e w1 ⟨rfl, hb1⟩)
    go_ret
    exact ⟨by rw [HV2.out]; rfl, HB0.out.trans (hb1.mono (by have := HZ0.out; omega))⟩
  · have HV := Lib.hid (HNM.out v)
    have hvn := hv
    rw [hv] at HV
    have HVN := Lib.hid hvn
    have HV2 := Lib.hid (HM.out _ hv)
    clear hv hvn
    go_wp2_with (go_at_call 32; refine (HV.out _).mono ?_; rintro e w1 ⟨rfl, hb1⟩; have HB1 := Lib.hid hb1; clear hb1)
    generalize hgw : w.alloc (.cells #[.int .i64 l, .string v, .slice A1 ws.length c1, .slice A2 ns.length c2, .slice A3 bs.length c3] 38) = w0 at *
    clear hgw
    go_loopw [3] (fun i wr => MW w0 ws i wr) (fun i _ => ws.length - (intOf i).toNat)
    case atStart => exact ⟨0, Nat.zero_le _, rfl, rfl, HB1.out⟩
    case round =>
      obtain ⟨k, hk, rfl, hnm, hbw⟩ := hrel
      have hbx := (hbw.block w.heap.size (by have := HZ0.out; omega)).trans HBX.out
      by_cases hkn : k < ws.length
      · have q2 : wr.cell? ⟨w.heap.size, 2, none⟩ = some (.slice A1 ws.length c1) := blk_cell hbx 2
        have hC := Kd.C_below H1.out hbw
        obtain ⟨ad, rfl, hcell⟩ := Kd.at_string hC k (by omega) (by omega)
        rw [Int.toNat_natCast] at hcell
        have hkn2 : (k : Int) < (ws.length : Int) := by omega
        have HNK := Lib.hid hnm
        have HBW := Lib.hid hbw
        have htk := take_rdS ws k hkn
        have hmm := mem_rdS ws k hkn
        have HTK := Lib.hid htk
        have HMM := Lib.hid hmm
        clear hbx hC hnm hbw htk hmm
        generalize rdOf ByteArray.empty ws k = x at *
        cases hx : isName x.data.toList
        · have HX := Lib.hid (HNM.out x)
          rw [hx] at HX
          have HXN := Lib.hid hx
          clear hx
          go_wp2_with (go_at_call 32; refine (HX.out _).mono ?_; rintro e w2 ⟨rfl, hb2⟩)
          go_ret
          refine ⟨?_, HB0.out.trans ((HBW.out.trans (hb2.mono HBW.out.size)).mono (by have := HZ0.out; omega))⟩
          rw [HV2.out, show (ws.all fun x => isName x.data.toList) = false from List.all_eq_false.2 ⟨x, HMM.out, by rw [HXN.out]; simp⟩]
          rfl
        · have HX := Lib.hid (HNM.out x)
          rw [hx] at HX
          have HXN := Lib.hid hx
          clear hx
          go_wp2_with (go_at_call 32; refine (HX.out _).mono ?_; rintro e w2 ⟨rfl, hb2⟩)
          go_roundw
          case rel => exact ⟨k + 1, by omega, by go_num, by unfold namesTo; rw [HTK.out, List.all_append, show ((ws.take k).all fun x => isName x.data.toList) = true from HNK.out]; simp [HXN.out], HBW.out.trans (hb2.mono HBW.out.size)⟩
          case measure => simp [intOf]; omega
      · obtain rfl : k = ws.length := by omega
        have q0 : wr.cell? ⟨w.heap.size, 0, none⟩ = some (.int .i64 l) := blk_cell hbx 0
        have q1 : wr.cell? ⟨w.heap.size, 1, none⟩ = some (.string v) := blk_cell hbx 1
        have q2 : wr.cell? ⟨w.heap.size, 2, none⟩ = some (.slice A1 ws.length c1) := blk_cell hbx 2
        have q3 : wr.cell? ⟨w.heap.size, 3, none⟩ = some (.slice A2 ns.length c2) := blk_cell hbx 3
        have q4 : wr.cell? ⟨w.heap.size, 4, none⟩ = some (.slice A3 bs.length c3) := blk_cell hbx 4
        have hkn2 : ¬ (ws.length : Int) < (ws.length : Int) := by omega
        unfold namesTo at hnm
        rw [List.take_length] at hnm
        rw [hnm] at HV2
        have hlc := line_call l v A1 A2 A3 c1 c2 c3 ws ns bs wr (Kd.C_below H1.out hbw) (Kd.C_below H2.out hbw) (Kd.C_below H3.out hbw) hs0 hs1 hs2 hs3 HN.out HB.out HSZ.out
        have HLC := Lib.hid hlc
        have HNK := Lib.hid hnm
        have HBW := Lib.hid hbw
        have HBXR := Lib.hid hbx
        clear hbx hnm hbw hkn hlc
        have hle := LB_size v ws ns bs hs0 hs1 HSZ.out hs2 HN.out hs3 bs.length
        have hle2 := LN_size v ws ns hs0 hs1 HSZ.out hs2 HN.out ns.length
        rw [List.take_length, mk_size] at hle hle2
        have hsl : (mk (lineVal v ws ns bs)).size < 8796093022208 := by rw [mk_size, lineVal]; split <;> omega
        have hwl : (wordsOf (mk (lineVal v ws ns bs)).data.toList).map mk = v :: wordRest ws ns bs := by
          rw [mk_data, lineVal_eq, words_line _ _ (clean_name _ HVN.out) (tail_clean ws ns bs HB.out HNK.out), ← vals_strs, map_mk]
          rfl
        have hwq : wordsOf (lineVal v ws ns bs) = v.data.toList :: (wordRest ws ns bs).map (·.data.toList) := by
          rw [lineVal_eq, words_line _ _ (clean_name _ HVN.out) (tail_clean ws ns bs HB.out HNK.out), ← vals_strs]
          rfl
        have hcl : ∀ x ∈ wordRest ws ns bs, x.data.toList ≠ [] := fun x hx => by
          have hc := tail_clean ws ns bs HB.out HNK.out x.data.toList (by
            have e := vals_strs v ws ns bs
            rw [wordVals_cons, List.map_cons] at e
            rw [← (List.cons.inj e).2]
            exact List.mem_map.2 ⟨x, hx, rfl⟩)
          exact hc.1
        rw [hwq] at HV2
        go_wp2_with (go_at_call 17; refine HLC.out.mono ?_; rintro e w2 ⟨rfl, hb2⟩; have HB2 := Lib.hid hb2; clear hb2)
        refine (words16 _ _ hsl).mono ?_
        rintro e w3 ⟨vv, rfl, hR3, hb3⟩
        rw [hwl] at hR3
        obtain ⟨g, cap, rfl, _, hg, _⟩ := Kd.R_form hR3 (by simp)
        obtain ⟨_, hcap, hCw⟩ := Kd.R_reads' hR3
        have hrd := read_any g 0 cap v (wordRest ws ns bs) w3 hCw hcap (by have := wordRest_len ws ns bs; omega) (wordRest_size ws ns bs HSZ.out HN.out hs3) hcl
        have hw3 : Below w0.heap.size w0 w3 := (HBW.out.trans (HB2.out.mono HBW.out.size)).trans (hb3.mono (Nat.le_trans HBW.out.size HB2.out.size))
        have hbx3 := (hw3.block w.heap.size (by have := HZ0.out; omega)).trans HBX.out
        have hfacts := fun d => readCmd_bytes v.data.toList ((wordRest ws ns bs).map (·.data.toList)) d
        have HFB := Lib.hid hfacts
        have HCW := Lib.hid hCw
        have HW3 := Lib.hid hw3
        have HBX3 := Lib.hid hbx3
        clear hle hle2 hsl hwl hwq hcl hR3 hb3 hCw hw3 hbx3 q0 q1 q2 q3 q4 hfacts
        generalize readCmd (v.data.toList :: (wordRest ws ns bs).map (·.data.toList)) = ro at *
        have hln : (v :: wordRest ws ns bs).length = (wordRest ws ns bs).length + 1 := rfl
        have HRD := Lib.hid hrd
        clear hrd hln
        go_wp2_with (go_at_call 24; refine Hid.out ?_)
        refine Lib.hid ?_
        refine HRD.out.mono ?_
        rcases ro with _ | d
        · rintro e w4 ⟨hb4, l', vb', A1', n1', c1', A2', n2', c2', A3', n3', c3', rfl⟩
          have hbx4 := (hb4.block w.heap.size (blk_lt HBX3.out)).trans HBX3.out
          have hlt4 : w.heap.size < w4.heap.size := blk_lt hbx4
          have q0 : w4.cell? ⟨w.heap.size, 0, none⟩ = some (.int .i64 l) := blk_cell hbx4 0
          have hw4 : Below w0.heap.size w0 w4 := HW3.out.trans (hb4.mono HW3.out.size)
          have HW4 := Lib.hid hw4
          clear hbx4 hb4 hw4
          go_wp2
          go_ret
          refine ⟨by rw [HV2.out]; rfl, ?_⟩
          exact (HB0.out.trans (HW4.out.mono (by have := HZ0.out; omega))).alloc (by omega) _
        · rintro e w4 ⟨hb4, A1', n1', c1', A2', n2', c2', A3', n3', c3', rfl, ⟨e1, k1, hwin⟩, hR2, hR3⟩
          obtain ⟨e2, k2, hD2⟩ := Kd.R_reads' hR2
          obtain ⟨e3, k3, hD3⟩ := Kd.R_reads' hR3
          have hD1 := hwin w4 (Kd.C_below HCW.out hb4)
          have hdb := HFB.out d rfl
          have hbx4 := (hb4.block w.heap.size (blk_lt HBX3.out)).trans HBX3.out
          have hlt4 : w.heap.size < w4.heap.size := blk_lt hbx4
          have q0 : w4.cell? ⟨w.heap.size, 0, none⟩ = some (.int .i64 l) := blk_cell hbx4 0
          have q1 : w4.cell? ⟨w.heap.size, 1, none⟩ = some (.string v) := blk_cell hbx4 1
          have q2 : w4.cell? ⟨w.heap.size, 2, none⟩ = some (.slice A1 ws.length c1) := blk_cell hbx4 2
          have q3 : w4.cell? ⟨w.heap.size, 3, none⟩ = some (.slice A2 ns.length c2) := blk_cell hbx4 3
          have q4 : w4.cell? ⟨w.heap.size, 4, none⟩ = some (.slice A3 bs.length c3) := blk_cell hbx4 4
          have hw4 : Below w0.heap.size w0 w4 := HW3.out.trans (hb4.mono HW3.out.size)
          have hv2 := HV2.out
          have hsp : (match (some d : Option Cmd) with
            | none => false
            | some d => sameParts d v ws ns bs) = sameParts d v ws ns bs := rfl
          rw [hsp] at hv2
          unfold sameParts at hv2
          clear hsp hR2 hR3 hwin
          generalize d.words.map mk = dws at *
          generalize d.nums = dns at *
          generalize d.bytes = dbs at *
          generalize mk d.verb = dv at *
          subst e1 e2 e3
          have hq : ∀ W, Below w4.heap.size w4 W → Calls Tryz.prog 26 #[.agg #[.int .i64 l, .string v, .slice A1 ws.length c1, .slice A2 ns.length c2, .slice A3 bs.length c3], .agg #[.int .i64 l, .string dv, .slice A1' dws.length c1', .slice A2' dns.length c2', .slice A3' dbs.length c3']] W fun e w' => e = .returned (.bool (decide (v = dv) && (decide (ws = dws) && (decide (ns = dns) && decide (bs = dbs))))) ∧ Below W.heap.size W w' := fun W hW =>
            radomeref40_Same.calls _ _ _ _ _ _ _ _ _ _ _ _ _ _ _ _ _ _ _ _ _ _ _ _ W (Kd.C_below (Kd.C_below H1.out hw4) hW) hl1 (Kd.C_below (Kd.C_below H2.out hw4) hW) hl2 (Kd.C_below (Kd.C_below H3.out hw4) hW) hl3
              (Kd.C_below hD1 hW) k1 (Kd.C_below hD2 hW) k2 (Kd.C_below hD3 hW) k3 (same_law2 _ _ _ _ _ _ _ _ _ (by omega) (by omega) HB.out hdb)
          have HQ := Lib.hid hq
          have HVV := Lib.hid hv2
          have HW4 := Lib.hid hw4
          have HNW := Lib.hid ((Below.refl w4.heap.size w4).alloc (Nat.le_refl _) (.cells #[.int .i64 l, .string dv, .slice A1' dws.length c1', .slice A2' dns.length c2', .slice A3' dbs.length c3'] 38))
          generalize hr : (decide (v = dv) && (decide (ws = dws) && (decide (ns = dns) && decide (bs = dbs)))) = r at *
          have HRR := Lib.hid hr
          clear hq hv2 hw4 hbx4 hb4 hD1 hD2 hD3 hdb hr
          go_wp2_with (go_at_call 26; refine (HQ.out _ HNW.out).mono ?_; rintro e w5 ⟨rfl, hb5⟩)
          go_ret
          refine ⟨?_, ?_⟩
          · rw [HVV.out, ← HRR.out]
            have c1 : decide (dv = v) = decide (v = dv) := decide_eq_decide.2 eq_comm
            have c2 : decide (dws = ws) = decide (ws = dws) := decide_eq_decide.2 eq_comm
            have c3 : decide (dns = ns) = decide (ns = dns) := decide_eq_decide.2 eq_comm
            have c4 : decide (dbs = bs) = decide (bs = dbs) := decide_eq_decide.2 eq_comm
            rw [c1, c2, c3, c4]
            rfl
          · have h1 := HB0.out.trans (HW4.out.mono (by have := HZ0.out; omega))
            exact (h1.alloc (by omega) _).trans (hb5.mono (by rw [World.size_alloc]; omega))
end Go.Proofs.YtfiacgkhkonilaaGreatDoor

namespace Go.Proofs.YtfiacgkhkonilaaGreatDoor
open Go Go.RowKit Go.Extern.Stop Go.Stop Go.Extern

/-- errors.As(nil, target). -/
theorem as_nil (t : Value) (w : World) :
    Calls Tryz.prog 25 #[.nilIface, t] w fun e w' => e = .returned (.bool false) ∧ w' = w := by
  go_enter Tryz.func25, Tryz.ntmps25
  go_wp2
  go_ret
  exact ⟨rfl, rfl⟩

/-! ### CLOSED FACTS ON THE MODEL's ENTRIES FOR internal/reflectlite, at this program's types: 25: *p.E · 27: **p.E · 23: error · 45: reflectlite's rtype · 1: how many package-level variables the dump has -/
theorem Asx.valueOf27 (t : Addr) (w : World) : (ReflectliteValue.unpack (.iface 61 (.pointer (some t)))).run Tryz.prog w
    = .ok (.agg #[.pointer (some ⟨9, 61, none⟩), .pointer (some ⟨w.heap.size, 0, none⟩), .int .u64 150]) (w.alloc (.cells #[.pointer (some t)] 61)) := by kernel_rfl
theorem Asx.type27 (a : Addr) (w : World) : (ReflectliteValue.methodAny (ReflectliteValue.valueError "reflectlite.Value.Type" 0) (fun t _ _ _ => ReflectliteType.toType t) #[.agg #[.pointer (some ⟨9, 61, none⟩), .pointer (some a), .int .u64 150]]).run Tryz.prog w
    = .ok (.iface 116 (.agg #[.pointer (some ⟨9, 61, none⟩)])) w := by kernel_rfl
theorem Asx.methodKind (h : Value) (w : World) : (Go.method 308 116 (.agg #[h]) "Kind").run Tryz.prog w = .ok (129, h) w := by kernel_rfl
theorem Asx.kind27 (w : World) : ((ReflectliteType.abiMethod fun t => (fun a : Nat => Value.int IntKind.u8 (a : Int)) <$> Rtype.kind t) #[.pointer (some ⟨9, 61, none⟩)]).run Tryz.prog w = .ok (.int .u8 22) w := by kernel_rfl
theorem Asx.kind25 (w : World) : ((ReflectliteType.abiMethod fun t => (fun a : Nat => Value.int IntKind.u8 (a : Int)) <$> Rtype.kind t) #[.pointer (some ⟨9, 47, none⟩)]).run Tryz.prog w = .ok (.int .u8 2) w := by kernel_rfl

/-! ### THE ENTRIES THAT READ OR WRITE MEMORY: laws with a premise on the cell (after Derived/Lib/ReflectliteSlice.lean's manner: each unfolding a lemma of its own, by rfl) -/
theorem rlm (z : Sem Value) (f : TypeId → Addr → Nat → Nat → Sem Value) (v : Value) :
    ReflectliteValue.method z f #[v] = (do match ← ReflectliteValue.parts v with | none => z | some (t, a, fl) => f t a fl (fl % 32)) := rfl
theorem Asx.parts27 (a : Addr) (w : World) : (ReflectliteValue.parts (.agg #[.pointer (some ⟨9, 61, none⟩), .pointer (some a), .int .u64 150])).run Tryz.prog w = .ok (some (61, a, 150)) w := by kernel_rfl
/-- (Value).IsNil at the Value of a **p.E that is not nil. -/
theorem Asx.isNil27 (a p : Addr) (W : World) (ha : W.cell? a = some (.pointer (some p))) :
    (ReflectliteValue.method (ReflectliteValue.valueError "reflectlite.Value.IsNil" 0) ReflectliteValue.isNil #[.agg #[.pointer (some ⟨9, 61, none⟩), .pointer (some a), .int .u64 150]]).run Tryz.prog W = .ok (.bool false) W := by
  rw [rlm]
  simp only [Sem.run_bind, Asx.parts27, Result.andThen]
  simp [ReflectliteValue.isNil, loadVar, isAgg, underlying, Tryz.underlying61, ha, Result.andThen]

theorem Asx.methodElem (h : Value) (w : World) : (Go.method 308 116 (.agg #[h]) "Elem").run Tryz.prog w = .ok (140, .agg #[h]) w := by kernel_rfl
theorem Asx.methodImplements (h : Value) (w : World) : (Go.method 308 116 (.agg #[h]) "Implements").run Tryz.prog w = .ok (141, .agg #[h]) w := by kernel_rfl
theorem Asx.methodAssignableTo (h : Value) (w : World) : (Go.method 308 116 (.agg #[h]) "AssignableTo").run Tryz.prog w = .ok (138, .agg #[h]) w := by kernel_rfl
theorem Asx.elem27 (w : World) : (ReflectliteType.method ReflectliteType.elem #[.agg #[.pointer (some ⟨9, 61, none⟩)]]).run Tryz.prog w = .ok (.iface 116 (.agg #[.pointer (some ⟨9, 47, none⟩)])) w := by kernel_rfl
theorem Asx.implements25 (w : World) : (ReflectliteType.relation "Implements" ReflectliteType.implements_ #[.agg #[.pointer (some ⟨9, 47, none⟩)], .iface 116 (.agg #[.pointer (some ⟨9, 25, none⟩)])]).run Tryz.prog w = .ok (.bool true) w := by kernel_rfl
theorem Asx.typeOf25 (v : Value) (w : World) : (ReflectliteType.typeOf #[.iface 47 v]).run Tryz.prog w = .ok (.iface 116 (.agg #[.pointer (some ⟨9, 47, none⟩)])) w := by kernel_rfl
theorem Asx.assignable25 (w : World) : (ReflectliteType.relation "AssignableTo" ReflectliteType.assignableTo #[.agg #[.pointer (some ⟨9, 47, none⟩)], .iface 116 (.agg #[.pointer (some ⟨9, 47, none⟩)])]).run Tryz.prog w = .ok (.bool true) w := by kernel_rfl
theorem Asx.valueOf25 (e : Int) (w : World) : (ReflectliteValue.unpack (.iface 47 (.int .i64 e))).run Tryz.prog w
    = .ok (.agg #[.pointer (some ⟨9, 47, none⟩), .pointer (some ⟨w.heap.size, 0, none⟩), .int .u64 130]) (w.alloc (.cells #[.int .i64 e] 47)) := by kernel_rfl

theorem Asx.elemOf27 (w : World) : (Rtype.elem? 61).run Tryz.prog w = .ok (some 47) w := by kernel_rfl
theorem Asx.mk25 (p : Addr) (w : World) : (ReflectliteValue.mk 47 p ReflectliteValue.flagAddr).run Tryz.prog w = .ok (.agg #[.pointer (some ⟨9, 47, none⟩), .pointer (some p), .int .u64 386]) w := by kernel_rfl
/-- (Value).Elem at the Value of a **p.E that is not nil: the Value of the *p.E variable that it points to, addressable. -/
theorem Asx.elemV27 (a p : Addr) (W : World) (ha : W.cell? a = some (.pointer (some p))) :
    (ReflectliteValue.method (ReflectliteValue.valueError "reflectlite.Value.Elem" 0) ReflectliteValue.elem #[.agg #[.pointer (some ⟨9, 61, none⟩), .pointer (some a), .int .u64 150]]).run Tryz.prog W
      = .ok (.agg #[.pointer (some ⟨9, 47, none⟩), .pointer (some p), .int .u64 386]) W := by
  rw [rlm]
  simp only [Sem.run_bind, Asx.parts27, Result.andThen]
  simp [ReflectliteValue.elem, loadVar, isAgg, underlying, Tryz.underlying61, ha, Result.andThen, Asx.elemOf27, Asx.mk25]
theorem rls (v x : Value) : ReflectliteValue.set #[v, x] = (do
    let (some (dst, a, fl), some (src, b, _)) := (← ReflectliteValue.parts v, ← ReflectliteValue.parts x)
      | unsupported (.noEntry "extern/(internal/reflectlite.Value).Set.zeroValue")
    if fl / ReflectliteValue.flagAddr % 2 == 0 then unsupported (.noEntry "extern/(internal/reflectlite.Value).Set.unaddressable")
    let val ← loadVar src b
    if ← Rtype.directlyAssignable dst src then storeVar dst a val
    else if ← Rtype.implements dst src then
      if (← Rtype.kind src) == 20 then
        match val with
        | .nilIface => unsupported (.noEntry "extern/reflectlite: a nil value of one interface type handed on as a value of another")
        | _ => storeVar dst a val
      else storeVar dst a (.iface src val)
    else panicString ("reflectlite.Set: value of type " ++ (← Rtype.spelt src) ++ " is not assignable to type " ++ (← Rtype.spelt dst))
    pure (.tuple #[])) := rfl
theorem Asx.parts25a (a : Addr) (w : World) : (ReflectliteValue.parts (.agg #[.pointer (some ⟨9, 47, none⟩), .pointer (some a), .int .u64 386])).run Tryz.prog w = .ok (some (47, a, 386)) w := by kernel_rfl
theorem Asx.parts25 (a : Addr) (w : World) : (ReflectliteValue.parts (.agg #[.pointer (some ⟨9, 47, none⟩), .pointer (some a), .int .u64 130])).run Tryz.prog w = .ok (some (47, a, 130)) w := by kernel_rfl
theorem Asx.direct25 (w : World) : (Rtype.directlyAssignable 47 47).run Tryz.prog w = .ok true w := by kernel_rfl
theorem Asx.size25 (w : World) : (sizeOf 47).run Tryz.prog w = .ok 1 w := by kernel_rfl
/-- (Value).Set: the *p.E variable at 'ta' gets what the Value's own variable 'b' holds. -/
theorem Asx.set25 (ta b : Addr) (e : Int) (old : Value) (W : World) (hb : W.cell? b = some (.int .i64 e)) (ht : W.cell? ta = some old) (hf : W.frozen? ta = false) :
    (ReflectliteValue.set #[.agg #[.pointer (some ⟨9, 47, none⟩), .pointer (some ta), .int .u64 386], .agg #[.pointer (some ⟨9, 47, none⟩), .pointer (some b), .int .u64 130]]).run Tryz.prog W
      = .ok (.tuple #[]) (W.setCell ta (.int .i64 e)) := by
  rw [rls]
  simp only [Sem.run_bind, Asx.parts25a, Asx.parts25, Result.andThen]
  simp [ReflectliteValue.flagAddr, loadVar, isAgg, underlying, Tryz.underlying47, hb, Result.andThen, Asx.direct25, storeVar, Value.cells, storeCells, Addr.add]
  rw [run_store Tryz.prog W ta _ _ (by rfl)]
  simp [ht, hf]

set_option maxRecDepth 100000 in
set_option maxHeartbeats 4000000 in
theorem as_hit (e : Int) (t : Addr) (old : Value) (w : World) (hg : w.cell? ⟨0, 0, none⟩ = some (.iface 116 (.agg #[.pointer (some ⟨9, 25, none⟩)]))) (ht0 : w.cell? t = some old) (hf0 : w.frozen? t = false) :
    Calls Tryz.prog 25 #[.iface 47 (.int .i64 e), .iface 61 (.pointer (some t))] w fun ev w' => ev = .returned (.bool true) ∧ w' = ((((w.alloc (.cells #[.pointer (some t)] 61)).alloc (.cells #[.pointer (some ⟨9, 61, none⟩), .pointer (some ⟨w.heap.size, 0, none⟩), .int .u64 150] 88)).alloc (.cells #[.pointer (some ⟨9, 61, none⟩), .pointer (some ⟨w.heap.size, 0, none⟩), .int .u64 150] 88)).alloc (.cells #[.int .i64 e] 47)).setCell t (.int .i64 e) := by
  have h6 := @run_callFunc_extern Tryz.prog 44 _ (fun args => ReflectliteValue.unpack (args.getD 0 (.tuple #[]))) Tryz.func44 (by kernel_rfl) (by kernel_rfl) (by kernel_rfl) (by kernel_rfl)
  have h7 := @run_callFunc_extern Tryz.prog 45 _ (ReflectliteValue.methodAny (ReflectliteValue.valueError "reflectlite.Value.Type" 0) (fun t _ _ _ => ReflectliteType.toType t)) Tryz.func45 (by kernel_rfl) (by kernel_rfl) (by kernel_rfl) (by kernel_rfl)
  have h8 := @run_callFunc_extern Tryz.prog 46 _ (ReflectliteValue.method (ReflectliteValue.valueError "reflectlite.Value.IsNil" 0) ReflectliteValue.isNil) Tryz.func46 (by kernel_rfl) (by kernel_rfl) (by kernel_rfl) (by kernel_rfl)
  have h27 := @run_callFunc_extern Tryz.prog 129 _ (ReflectliteType.abiMethod fun t => do pure (.int .u8 (← Rtype.kind t))) Tryz.func129 (by kernel_rfl) (by kernel_rfl) (by kernel_rfl) (by kernel_rfl)
  have h37 := @run_callFunc_extern Tryz.prog 140 _ (ReflectliteType.method ReflectliteType.elem) Tryz.func140 (by kernel_rfl) (by kernel_rfl) (by kernel_rfl) (by kernel_rfl)
  have h38 := @run_callFunc_extern Tryz.prog 141 _ (ReflectliteType.relation "Implements" ReflectliteType.implements_) Tryz.func141 (by kernel_rfl) (by kernel_rfl) (by kernel_rfl) (by kernel_rfl)
  have h10 := @run_callFunc_extern Tryz.prog 60 _ ReflectliteType.typeOf Tryz.func60 (by kernel_rfl) (by kernel_rfl) (by kernel_rfl) (by kernel_rfl)
  have h35 := @run_callFunc_extern Tryz.prog 138 _ (ReflectliteType.relation "AssignableTo" ReflectliteType.assignableTo) Tryz.func138 (by kernel_rfl) (by kernel_rfl) (by kernel_rfl) (by kernel_rfl)
  have h11 := @run_callFunc_extern Tryz.prog 61 _ (ReflectliteValue.method (ReflectliteValue.valueError "reflectlite.Value.Elem" 0) ReflectliteValue.elem) Tryz.func61 (by kernel_rfl) (by kernel_rfl) (by kernel_rfl) (by kernel_rfl)
  have h12 := @run_callFunc_extern Tryz.prog 62 _ ReflectliteValue.set Tryz.func62 (by kernel_rfl) (by kernel_rfl) (by kernel_rfl) (by kernel_rfl)
  have tO := Asx.typeOf25
  have mA := Asx.methodAssignableTo
  have a25 := Asx.assignable25
  have v25 := Asx.valueOf25
  have f6 := Asx.valueOf27
  have f7 := Asx.type27
  have mK := Asx.methodKind
  have mE := Asx.methodElem
  have mI := Asx.methodImplements
  have k27 := Asx.kind27
  have k25 := Asx.kind25
  have e27 := Asx.elem27
  have i25 := Asx.implements25
  have n8 := Asx.isNil27 ⟨w.heap.size, 0, none⟩ t ((w.alloc (.cells #[.pointer (some t)] 61)).alloc (.cells #[.pointer (some ⟨9, 61, none⟩), .pointer (some ⟨w.heap.size, 0, none⟩), .int .u64 150] 88)) (by simp)
  have hlt : 0 < w.heap.size := by
    rcases Nat.eq_zero_or_pos w.heap.size with h0 | h
    · simp [World.cell?, h0] at hg
    · exact h
  have hg2 : ((w.alloc (.cells #[.pointer (some t)] 61)).alloc (.cells #[.pointer (some ⟨9, 61, none⟩), .pointer (some ⟨w.heap.size, 0, none⟩), .int .u64 150] 88)).cell? ⟨0, 0, none⟩ = some (.iface 116 (.agg #[.pointer (some ⟨9, 25, none⟩)])) := by
    rw [World.cell?_alloc_lt _ _ ⟨0, 0, none⟩ (by simp), World.cell?_alloc_lt _ _ ⟨0, 0, none⟩ hlt]; exact hg
  have htl : t.block < w.heap.size := by
    rcases Nat.lt_or_ge t.block w.heap.size with h | h
    · exact h
    · simp [World.cell?, Array.getElem?_eq_none h] at ht0
  have el := Asx.elemV27 ⟨w.heap.size, 0, none⟩ t (((w.alloc (.cells #[.pointer (some t)] 61)).alloc (.cells #[.pointer (some ⟨9, 61, none⟩), .pointer (some ⟨w.heap.size, 0, none⟩), .int .u64 150] 88)).alloc (.cells #[.pointer (some ⟨9, 61, none⟩), .pointer (some ⟨w.heap.size, 0, none⟩), .int .u64 150] 88)) (by rw [World.cell?_alloc_lt _ _ ⟨w.heap.size, 0, none⟩ (by simp; omega)]; simp)
  have st := Asx.set25 t ⟨w.heap.size + 1 + 1 + 1, 0, none⟩ e old ((((w.alloc (.cells #[.pointer (some t)] 61)).alloc (.cells #[.pointer (some ⟨9, 61, none⟩), .pointer (some ⟨w.heap.size, 0, none⟩), .int .u64 150] 88)).alloc (.cells #[.pointer (some ⟨9, 61, none⟩), .pointer (some ⟨w.heap.size, 0, none⟩), .int .u64 150] 88)).alloc (.cells #[.int .i64 e] 47))
    (by rw [World.cell?_alloc_at _ _ _ _ (by simp)]; rfl)
    (by rw [World.cell?_alloc_lt _ _ t (by simp; omega), World.cell?_alloc_lt _ _ t (by simp; omega), World.cell?_alloc_lt _ _ t (by simp; omega), World.cell?_alloc_lt _ _ t htl]; exact ht0)
    (by rw [World.frozen?_alloc_old _ _ t (by simp; omega), World.frozen?_alloc_old _ _ t (by simp; omega), World.frozen?_alloc_old _ _ t (by simp; omega), World.frozen?_alloc_old _ _ t (Nat.ne_of_lt htl)]; exact hf0)
  go_enter Tryz.func25, Tryz.ntmps25
  go_wp2
  refine wp_loop_rounds 1 ?_
  rw [rounds_succ]
  go_wp2
  go_ret
  exact ⟨rfl, rfl⟩
end Go.Proofs.YtfiacgkhkonilaaGreatDoor

/- The walk of num: an error's number. -/
namespace Go.Proofs.YtfiacgkhkonilaaGreatDoor
open Go Go.RowKit Go.Proofs.YtfiacgkhkonilaaGreatDoorW.PrintWords Go.Proofs.YtfiacgkhkonilaaGreatDoorW.PrintLast Go.Proofs.YtfiacgkhkonilaaGreatDoorW.PrintMore

set_option maxRecDepth 100000 in
theorem num_nil (w : World) : Calls Tryz.prog 9 #[.nilIface] w fun e w' => e = .returned (.int .i64 0) ∧ Below w.heap.size w w' := by
  go_enter Tryz.func9, Tryz.ntmps9
  go_wp2
  go_ret
  exact ⟨rfl, (Below.refl _ w).alloc (Nat.le_refl _) _⟩

theorem as_errno (k : Int) (t : Nat) (w : World) (he : Env w) (ht : w.heap[t]? = some (.cells #[.int .i64 0] 47 (0, 0))) :
    Calls Tryz.prog 25 #[.iface 47 (.int .i64 k), .iface 61 (.pointer (some ⟨t, 0, none⟩))] w fun e w' => e = .returned (.bool true) ∧ w'.heap[t]? = some (.cells #[.int .i64 k] 47 (0, 0)) ∧ Below t w w' := by
  have hlt : t < w.heap.size := (Array.getElem?_eq_some_iff.1 ht).1
  refine (as_hit k ⟨t, 0, none⟩ (.int .i64 0) w he.typ (blk_cell ht 0) (blk_frozen ht 0)).mono ?_
  rintro e w' ⟨rfl, rfl⟩
  refine ⟨rfl, ?_, ?_⟩
  · exact blk_set (up _ (up _ (up _ (up _ ht)))) 0 _
  · exact (((((Below.refl t w).alloc (by omega) _).alloc (by simp; omega) _).alloc (by simp; omega) _).alloc (by simp; omega) _).setCell (Nat.le_refl _) _

set_option maxRecDepth 100000 in
theorem num_errno (k : Int) (w : World) (he : Env w) : Calls Tryz.prog 9 #[.iface 47 (.int .i64 k)] w fun e w' => e = .returned (.int .i64 k) ∧ Below w.heap.size w w' := by
  have hW : Env (w.alloc (.cells #[.int .i64 0] 47)) := he.below ((Below.refl _ w).alloc (Nat.le_refl _) _)
  have HA := Lib.hid (as_errno k w.heap.size (w.alloc (.cells #[.int .i64 0] 47)) hW (fresh w _ rfl))
  clear hW
  go_enter Tryz.func9, Tryz.ntmps9
  go_wp2_with (go_at_call 25; refine HA.out.mono ?_; rintro e w1 ⟨rfl, hc, hb⟩; have c0 : w1.cell? ⟨w.heap.size, 0, none⟩ = some (.int .i64 k) := blk_cell hc 0)
  go_ret
  exact ⟨rfl, ((Below.refl _ w).alloc (Nat.le_refl _) _).trans hb⟩
end Go.Proofs.YtfiacgkhkonilaaGreatDoor

/- The walks of script.Verbs and of sure. -/
namespace Go.Proofs.YtfiacgkhkonilaaGreatDoor
open Go Go.RowKit Go.Proofs.YtfiacgkhkonilaaGreatDoorW.PrintWords Go.Proofs.YtfiacgkhkonilaaGreatDoorW.PrintLast Go.Proofs.YtfiacgkhkonilaaGreatDoorW.PrintMore

def verbList : List ByteArray := [⟨#[115, 101, 116]⟩, ⟨#[109, 111, 100, 101, 108]⟩, ⟨#[114, 111, 119]⟩, ⟨#[115, 116, 97, 114, 116]⟩, ⟨#[116, 114, 97, 99, 107, 115]⟩, ⟨#[99, 111, 117, 110, 116, 115]⟩, ⟨#[116, 105, 109, 101]⟩, ⟨#[115, 99, 97, 110]⟩, ⟨#[114, 97, 119]⟩, ⟨#[99, 111, 110, 102, 105, 103]⟩, ⟨#[116, 114, 97, 99, 107]⟩, ⟨#[99, 111, 117, 110, 116]⟩]
set_option maxRecDepth 100000 in
theorem verbs_call (w : World) : Calls Tryz.prog 11 #[] w fun e w' => e = .returned (.slice (some ⟨w.heap.size, 0, none⟩) 12 12) ∧ w' = w.alloc (.cells (verbList.map Value.string).toArray 9) := by
  go_enter Tryz.func11, Tryz.ntmps11
  go_wp2
  go_ret
  exact ⟨rfl, rfl⟩

def sureText : ByteArray := ⟨#[37, 32, 97, 32, 110, 111, 116, 101, 10, 115, 99, 97, 110, 32, 49, 48, 48, 32, 53, 48, 48, 48, 32, 57, 10]⟩
def sureCmd : Cmd := ⟨2, vScan, [], [100, 5000, 9], []⟩
theorem sure_parse : parseLines 0 (lines sureText.data.toList) [] = .ok [sureCmd] := by
  have e : lines sureText.data.toList = [[37, 32, 97, 32, 110, 111, 116, 101], [115, 99, 97, 110, 32, 49, 48, 48, 32, 53, 48, 48, 48, 32, 57], []] := by decide +kernel
  have n1 : numOf [49, 48, 48] = some 100 := by rw [numOf_ref]; decide +kernel
  have n2 : numOf [53, 48, 48, 48] = some 5000 := by rw [numOf_ref]; decide +kernel
  have n3 : numOf [57] = some 9 := by rw [numOf_ref]; decide +kernel
  have w1 : wordsOf [37, 32, 97, 32, 110, 111, 116, 101] = [] := by decide +kernel
  have w2 : wordsOf [115, 99, 97, 110, 32, 49, 48, 48, 32, 53, 48, 48, 48, 32, 57] = [vScan, [49, 48, 48], [53, 48, 48, 48], [57]] := by decide +kernel
  have w3 : wordsOf [] = [] := by decide +kernel
  have hn : needOf vScan = some ⟨0, false, 3, 129, false⟩ := rfl
  have hr : readCmd [vScan, [49, 48, 48], [53, 48, 48, 48], [57]] = some ⟨0, vScan, [], [100, 5000, 9], []⟩ := by
    simp only [readCmd, hn]
    simp [numsOf, n1, n2, n3, Need.right]
  rw [e, parseLines_app, w1]
  simp only []
  rw [parseLines_app, w2]
  simp only [hr]
  rw [parseLines_app, w3]
  rfl
/-- A command in a row that is read. -/
theorem cmd_at {w : World} {A : Option Addr} {n : Nat} {cs : List Cmd} (h : kdCmd.C w A n cs) (i : Nat) (c : Cmd) (hc : cs[i]? = some c) : ∃ ad A1 c1 A2 c2 A3 c3, A = some ad ∧
    (w.cell? (ad.add (i * 5)) = some (.int .i64 c.line) ∧ w.cell? (ad.add (i * 5 + 1)) = some (.string (mk c.verb)) ∧ w.cell? (ad.add (i * 5 + 2)) = some (.slice A1 (c.words.map mk).length c1) ∧ w.cell? (ad.add (i * 5 + 3)) = some (.slice A2 c.nums.length c2) ∧ w.cell? (ad.add (i * 5 + 4)) = some (.slice A3 c.bytes.length c3)) ∧
    (Kd.string.C w A1 (c.words.map mk).length (c.words.map mk) ∧ (c.words.map mk).length ≤ c1) ∧ ((Kd.int .i64).C w A2 c.nums.length c.nums ∧ c.nums.length ≤ c2) ∧ ((Kd.int .u8).C w A3 c.bytes.length c.bytes ∧ c.bytes.length ≤ c3) := by
  obtain ⟨h1, h2, h3⟩ := h
  have hlt : i < cs.length := (List.getElem?_eq_some_iff.1 hc).1
  obtain ⟨ad, hA, hall⟩ := h3 (by omega)
  obtain ⟨v, _, hk, hv⟩ := hall i c hc
  obtain ⟨a0, r0, rfl, ha0, b0, r1, rfl, hb0, d0, r2, rfl, ⟨A1, c1, rfl, hl1, hC1⟩, e0, f0, rfl, ⟨A2, c2, rfl, hl2, hC2⟩, ⟨A3, c3, rfl, hl3, hC3⟩⟩ := hk
  have ha0' : a0 = [.int .i64 c.line] := ha0
  have hb0' : b0 = [.string (mk c.verb)] := hb0
  subst ha0' hb0'
  exact ⟨ad, A1, c1, A2, c2, A3, c3, hA, ⟨hv 0 _ rfl, hv 1 _ rfl, hv 2 _ rfl, hv 3 _ rfl, hv 4 _ rfl⟩, ⟨hC1, hl1⟩, ⟨hC2, hl2⟩, ⟨hC3, hl3⟩⟩

theorem sure_call (w : World) (he : Env w) : Calls Tryz.prog 7 #[.string sureText] w fun e w' => Below w.heap.size w w' ∧ ∃ g c ad2 c2, e = .returned (.tuple #[.slice (some ⟨g, 0, none⟩) 1 c, .int .i64 0, .nilIface]) ∧ 1 ≤ c ∧ 3 ≤ c2 ∧
    w'.cell? ⟨g, 0, none⟩ = some (.int .i64 2) ∧ w'.cell? ⟨g, 1, none⟩ = some (.string ⟨#[115, 99, 97, 110]⟩) ∧ w'.cell? ⟨g, 3, none⟩ = some (.slice (some ad2) 3 c2) ∧ w'.cell? ⟨ad2.block, ad2.off + 1, none⟩ = some (.int .i64 5000) := by
  refine (parse_any sureText w he).mono ?_
  rintro e w' ⟨hb, h⟩
  rw [if_neg (by decide), sure_parse] at h
  obtain ⟨A, c, rfl, hc, hC, hg⟩ := h
  obtain ⟨g, rfl⟩ := hg (by decide)
  obtain ⟨ad, A1, c1, A2, c2, A3, c3, hA, ⟨f0, f1, f2, f3, f4⟩, _, ⟨hC2, hl2⟩, _⟩ := cmd_at hC 0 sureCmd rfl
  cases hA
  obtain ⟨ad2, e2, g1⟩ := Kd.at_int hC2 1 (by decide) (by decide)
  subst e2
  exact ⟨hb, g, c, ad2, c2, rfl, hc, hl2, f0, f1, f3, g1⟩
set_option maxRecDepth 100000 in
set_option maxHeartbeats 1000000 in
/-- sure holds. -/
theorem sure_any (w : World) (he : Env w) : Calls Tryz.prog 6 #[] w fun e w' => e = .returned (.bool true) ∧ Below w.heap.size w w' := by
  have HS := Lib.hid (sure_call w he)
  clear he
  go_enter Tryz.func6, Tryz.ntmps6
  go_wp2_with (first
    | (go_at_call 7; refine HS.out.mono ?_; rintro e w1 ⟨hb1, g, cp, ad2, c2, rfl, hcp, hc2, f0, f1, f3, g1⟩; have HB1 := Lib.hid hb1; clear hb1)
    | (go_at_call 11; refine (verbs_call _).mono ?_; rintro e w2 ⟨rfl, rfl⟩))
  go_ret
  exact ⟨rfl, HB1.out.trans ((Below.refl _ _).alloc (Nat.le_trans HB1.out.size (Nat.le_refl _)) _)⟩
end Go.Proofs.YtfiacgkhkonilaaGreatDoor

/- The walk of the law ScriptTexts. -/
namespace Go.Proofs.YtfiacgkhkonilaaGreatDoor
open Go Go.RowKit Go.Proofs.YtfiacgkhkonilaaGreatDoorW.PrintWords Go.Proofs.YtfiacgkhkonilaaGreatDoorW.PrintLast Go.Proofs.YtfiacgkhkonilaaGreatDoorW.PrintMore

set_option maxRecDepth 100000 in
theorem give_call (l : Int) (v : ByteArray) (x2 x3 x4 : Value) (hx : (∃ A n c, x2 = .slice A n c) ∧ (∃ A n c, x3 = .slice A n c) ∧ (∃ A n c, x4 = .slice A n c)) (w : World) :
    Calls Tryz.prog 15 #[.agg #[.int .i64 l, .string v, x2, x3, x4]] w fun e w' => e = .returned (.agg #[.int .i64 l, .string v, x2, x3, x4]) ∧ Below w.heap.size w w' := by
  obtain ⟨⟨A1, n1, c1, rfl⟩, ⟨A2, n2, c2, rfl⟩, ⟨A3, n3, c3, rfl⟩⟩ := hx
  go_enter Tryz.func15, Tryz.ntmps15
  go_wp2
  refine bodyPost_ret (v := .agg #[.int .i64 l, .string v, .slice A1 n1 c1, .slice A2 n2 c2, .slice A3 n3 c3]) (by simp [results, Tryz.results15, go_sem]) rfl ⟨rfl, ?_⟩
  exact ((Below.refl _ _).alloc (Nat.le_refl _) _).alloc (by rw [World.size_alloc]; omega) _
theorem line_size (v : ByteArray) (ws : List ByteArray) (ns bs : List Int) (h0 : v.size ≤ 1000000) (h1 : ws.length ≤ 1000000) (h2 : ∀ x ∈ ws, x.size ≤ 1000000) (h3 : ns.length ≤ 1000000) (h4 : ∀ n ∈ ns, -9223372036854775808 ≤ n ∧ n ≤ 9223372036854775807) (h5 : bs.length ≤ 1000000) : (lineVal v ws ns bs).length ≤ 4000000000000 := by
  have hle := LB_size v ws ns bs h0 h1 h2 h3 h4 h5 bs.length
  have hle2 := LN_size v ws ns h0 h1 h2 h3 h4 ns.length
  rw [List.take_length, mk_size] at hle hle2
  rw [lineVal]; split <;> omega
set_option maxRecDepth 100000 in
set_option maxHeartbeats 2000000 in
theorem texts_light (l : Int) (v : ByteArray) (A1 A2 A3 : Option Addr) (c1 c2 c3 : Nat) (ws : List ByteArray) (ns bs : List Int) (w : World) (he : Env w)
    (hC1 : Kd.string.C w A1 ws.length ws) (hC2 : (Kd.int .i64).C w A2 ns.length ns) (hC3 : (Kd.int .u8).C w A3 bs.length bs) (hl1 : ws.length ≤ c1) (hl2 : ns.length ≤ c2) (hl3 : bs.length ≤ c3)
    (hs0 : v.size ≤ 1000000) (hs1 : ws.length ≤ 1000000) (hs2 : ns.length ≤ 1000000) (hs3 : bs.length ≤ 1000000) (hn : ∀ n ∈ ns, -9223372036854775808 ≤ n ∧ n ≤ 9223372036854775807) (hb : ∀ b ∈ bs, 0 ≤ b ∧ b < 256)
    (hsz : ∀ x ∈ ws, x.size ≤ 1000000) (hh : ∀ W, Below w.heap.size w W → Calls Tryz.prog 13 #[.agg #[.int .i64 l, .string v, .slice A1 ws.length c1, .slice A2 ns.length c2, .slice A3 bs.length c3]] W fun e w' => e = .returned (.bool false) ∧ Below W.heap.size W w') :
    Calls Tryz.prog 4 #[.agg #[.int .i64 l, .string v, .slice A1 ws.length c1, .slice A2 ns.length c2, .slice A3 bs.length c3]] w fun e w' => e = .returned (.bool true) ∧ Below w.heap.size w w' := by
  obtain ⟨o, ho⟩ : ∃ o : Obj, o = .cells #[.int .i64 l, .string v, .slice A1 ws.length c1, .slice A2 ns.length c2, .slice A3 bs.length c3] 38 := ⟨_, rfl⟩
  have hb0 : Below w.heap.size w (w.alloc o) := (Below.refl w.heap.size w).alloc (Nat.le_refl _) _
  have hbx := blk_new w o
  have hz0 : (w.alloc o).heap.size = w.heap.size + 1 := World.size_alloc _ _
  have hlen : (Lib.join ((wordVals v ws ns bs).map (·.data.toList)) [32]).length ≤ 140737488355328 := by
    have h1 := textLine_eq v ws ns bs
    have h2 := line_size v ws ns bs hs0 hs1 hsz hs2 hn hs3
    have h3 := congrArg ByteArray.size h1
    unfold textLine at h3
    rw [mk_size, mk_size] at h3
    omega
  have hgv : ∀ W, Calls Tryz.prog 15 #[.agg #[.int .i64 l, .string v, .slice A1 ws.length c1, .slice A2 ns.length c2, .slice A3 bs.length c3]] W fun e w' => e = .returned (.agg #[.int .i64 l, .string v, .slice A1 ws.length c1, .slice A2 ns.length c2, .slice A3 bs.length c3]) ∧ Below W.heap.size W w' := fun W => give_call l v _ _ _ ⟨⟨_, _, _, rfl⟩, ⟨_, _, _, rfl⟩, ⟨_, _, _, rfl⟩⟩ W
  have htx : ∀ W, Below w.heap.size w W → Calls Tryz.prog 14 #[.agg #[.int .i64 l, .string v, .slice A1 ws.length c1, .slice A2 ns.length c2, .slice A3 bs.length c3]] W fun e w' => e = .returned (if textOk v ws ns bs = true then .tuple #[.string (mk (lineVal v ws ns bs)), .nilIface] else .tuple #[.string ⟨#[]⟩, .iface 47 (.int .i64 1)]) ∧ Below W.heap.size W w' := fun W hW =>
    (text_call l v A1 A2 A3 c1 c2 c3 ws ns bs W (he.below hW) (Kd.C_below hC1 hW) (Kd.C_below hC2 hW) (Kd.C_below hC3 hW) hl1 hl2 hl3 hs1 hs2 hs3 hn hb hsz hlen).mono fun e w' ⟨h1, h2⟩ => ⟨by rw [← textLine_eq]; exact h2, h1⟩
  have hmy : ∀ W, Below w.heap.size w W → Calls Tryz.prog 16 #[.agg #[.int .i64 l, .string v, .slice A1 ws.length c1, .slice A2 ns.length c2, .slice A3 bs.length c3]] W fun e w' => e = .returned (.bool (textOk v ws ns bs)) ∧ Below W.heap.size W w' := fun W hW => by
    rw [text_may v ws ns bs hb]
    exact may_call l v A1 A2 A3 c1 c2 c3 ws ns bs W (Kd.C_below hC1 hW) (Kd.C_below hC2 hW) (Kd.C_below hC3 hW) hl1 hl2 hl3 hs0 hs1 hs2 hs3 hn hb hsz
  have hln : ∀ W, Below w.heap.size w W → Calls Tryz.prog 17 #[.agg #[.int .i64 l, .string v, .slice A1 ws.length c1, .slice A2 ns.length c2, .slice A3 bs.length c3]] W fun e w' => e = .returned (.string (mk (lineVal v ws ns bs))) ∧ Below W.heap.size W w' := fun W hW =>
    line_call l v A1 A2 A3 c1 c2 c3 ws ns bs W (Kd.C_below hC1 hW) (Kd.C_below hC2 hW) (Kd.C_below hC3 hW) hs0 hs1 hs2 hs3 hn hb hsz
  have hsu : ∀ W, Below w.heap.size w W → Calls Tryz.prog 6 #[] W fun e w' => e = .returned (.bool true) ∧ Below W.heap.size W w' := fun W hW => sure_any W (he.below hW)
  have hnu : ∀ W, Below w.heap.size w W → Calls Tryz.prog 9 #[.iface 47 (.int .i64 1)] W fun e w' => e = .returned (.int .i64 1) ∧ Below W.heap.size W w' := fun W hW => num_errno 1 W (he.below hW)
  have step : ∀ W W' : World, Below w.heap.size w W → Below W.heap.size W W' → Below w.heap.size w W' := fun W W' h1 h2 => h1.trans (h2.mono h1.size)
  have box : ∀ W W' : World, W.heap[w.heap.size]? = some o → Below W.heap.size W W' → W'.heap[w.heap.size]? = some o := fun W W' h1 h2 => (h2.block _ (blk_lt h1)).trans h1
  have HBX := Lib.hid hbx
  have HB0 := Lib.hid hb0
  have HH := Lib.hid hh
  have HG := Lib.hid hgv
  have HT := Lib.hid htx
  have HMY := Lib.hid hmy
  have HL := Lib.hid hln
  have HS := Lib.hid hsu
  have HNU := Lib.hid hnu
  have HST := Lib.hid step
  have HBO := Lib.hid box
  clear he hC1 hC2 hC3 hn hb hsz hh hbx hb0 hz0 hlen hgv htx hmy hln hsu hnu step box
  generalize textOk v ws ns bs = t at *
  generalize mk (lineVal v ws ns bs) = ln at *
  subst ho
  cases t
  · rw [if_neg Bool.false_ne_true] at HT
    go_enter Tryz.func4, Tryz.ntmps4
    go_wp2_with (first
      | (go_at_call 13; refine (HH.out _ HB0.out).mono ?_; rintro e w1 ⟨rfl, hb1⟩; have hx1 := HBO.out _ _ HBX.out hb1; obtain ⟨⟨d0, d1, d2, d3, d4⟩, _⟩ := cells5 hx1; have HB1 := Lib.hid (HST.out _ _ HB0.out hb1); have HX1 := Lib.hid hx1; clear hb1 hx1)
      | (go_at_call 15; refine (HG.out _).mono ?_; rintro e w2 ⟨rfl, hb2⟩; have hx2 := HBO.out _ _ HX1.out hb2; obtain ⟨⟨d0, d1, d2, d3, d4⟩, _⟩ := cells5 hx2; have HB2 := Lib.hid (HST.out _ _ HB1.out hb2); have HX2 := Lib.hid hx2; clear hb2 hx2)
      | (go_at_call 14; refine (HT.out _ HB2.out).mono ?_; rintro e w3 ⟨rfl, hb3⟩; have hx3 := HBO.out _ _ HX2.out hb3; obtain ⟨⟨d0, d1, d2, d3, d4⟩, _⟩ := cells5 hx3; have HB3 := Lib.hid (HST.out _ _ HB2.out hb3); have HX3 := Lib.hid hx3; clear hb3 hx3)
      | (go_at_call 16; refine (HMY.out _ HB3.out).mono ?_; rintro e w4 ⟨rfl, hb4⟩; have HB4 := Lib.hid (HST.out _ _ HB3.out hb4); clear hb4)
      | (go_at_call 9; refine (HNU.out _ HB4.out).mono ?_; rintro e w5 ⟨rfl, hb5⟩; have HB5 := Lib.hid (HST.out _ _ HB4.out hb5); clear hb5)
      | (go_at_call 6; refine (HS.out _ HB5.out).mono ?_; rintro e w6 ⟨rfl, hb6⟩; have HB6 := Lib.hid (HST.out _ _ HB5.out hb6); clear hb6))
    go_ret
    exact ⟨rfl, HB6.out⟩
  · rw [if_pos rfl] at HT
    go_enter Tryz.func4, Tryz.ntmps4
    go_wp2_with (first
      | (go_at_call 13; refine (HH.out _ HB0.out).mono ?_; rintro e w1 ⟨rfl, hb1⟩; have hx1 := HBO.out _ _ HBX.out hb1; obtain ⟨⟨d0, d1, d2, d3, d4⟩, _⟩ := cells5 hx1; have HB1 := Lib.hid (HST.out _ _ HB0.out hb1); have HX1 := Lib.hid hx1; clear hb1 hx1)
      | (go_at_call 15; refine (HG.out _).mono ?_; rintro e w2 ⟨rfl, hb2⟩; have hx2 := HBO.out _ _ HX1.out hb2; obtain ⟨⟨d0, d1, d2, d3, d4⟩, _⟩ := cells5 hx2; have HB2 := Lib.hid (HST.out _ _ HB1.out hb2); have HX2 := Lib.hid hx2; clear hb2 hx2)
      | (go_at_call 14; refine (HT.out _ HB2.out).mono ?_; rintro e w3 ⟨rfl, hb3⟩; have hx3 := HBO.out _ _ HX2.out hb3; obtain ⟨⟨d0, d1, d2, d3, d4⟩, _⟩ := cells5 hx3; have HB3 := Lib.hid (HST.out _ _ HB2.out hb3); have HX3 := Lib.hid hx3; clear hb3 hx3)
      | (go_at_call 16; refine (HMY.out _ HB3.out).mono ?_; rintro e w4 ⟨rfl, hb4⟩; have hx4 := HBO.out _ _ HX3.out hb4; obtain ⟨⟨d0, d1, d2, d3, d4⟩, _⟩ := cells5 hx4; have HB4 := Lib.hid (HST.out _ _ HB3.out hb4); clear hb4 hx4)
      | (go_at_call 17; refine (HL.out _ HB4.out).mono ?_; rintro e w5 ⟨rfl, hb5⟩; have HB5 := Lib.hid (HST.out _ _ HB4.out hb5); clear hb5)
      | (go_at_call 6; refine (HS.out _ HB5.out).mono ?_; rintro e w6 ⟨rfl, hb6⟩; have HB6 := Lib.hid (HST.out _ _ HB5.out hb6); clear hb6))
    go_ret
    exact ⟨rfl, HB6.out⟩
end Go.Proofs.YtfiacgkhkonilaaGreatDoor

/- ScriptTexts: for every command, on every schedule, the law answers true and leaves the command as it was; the variables that the card lists are tied to the program's text. -/
namespace Go.Proofs.YtfiacgkhkonilaaGreatDoor
open Go.ChangeShapes Go.WideShapes Go.ChangeAt Go.RowKit Go.ChangeMaps Go.Proofs.YtfiacgkhkonilaaGreatDoorW.PrintWords Go.Proofs.YtfiacgkhkonilaaGreatDoor.Pheavy

set_option maxRecDepth 100000 in
set_option maxHeartbeats 1000000 in
theorem texts_heavy (l : Int) (v : ByteArray) (A1 A2 A3 : Option Addr) (c1 c2 c3 : Nat) (ws : List ByteArray) (ns bs : List Int) (w : World) (he : Env w)
    (hh : ∀ W, Below w.heap.size w W → Calls Tryz.prog 13 #[.agg #[.int .i64 l, .string v, .slice A1 ws.length c1, .slice A2 ns.length c2, .slice A3 bs.length c3]] W fun e w' => e = .returned (.bool true) ∧ Below W.heap.size W w') :
    Calls Tryz.prog 4 #[.agg #[.int .i64 l, .string v, .slice A1 ws.length c1, .slice A2 ns.length c2, .slice A3 bs.length c3]] w fun e w' => e = .returned (.bool true) ∧ Below w.heap.size w w' := by
  have HB0 := Lib.hid ((Below.refl w.heap.size w).alloc (Nat.le_refl _) (.cells #[.int .i64 l, .string v, .slice A1 ws.length c1, .slice A2 ns.length c2, .slice A3 bs.length c3] 38))
  have HH := Lib.hid hh
  have HE := Lib.hid he
  clear he hh
  go_enter Tryz.func4, Tryz.ntmps4
  go_wp2_with (first
    | (go_at_call 13; refine (HH.out _ HB0.out).mono ?_; rintro e w1 ⟨rfl, hb1⟩; have HB1 := Lib.hid (HB0.out.trans (hb1.mono HB0.out.size)); clear hb1)
    | (go_at_call 6; refine (sure_any _ (HE.out.below HB1.out)).mono ?_; rintro e w2 ⟨rfl, hb2⟩; have HB2 := Lib.hid (HB1.out.trans (hb2.mono HB1.out.size)); clear hb2))
  go_ret
  exact ⟨rfl, HB2.out⟩
theorem texts_all (l : Int) (v : ByteArray) (A1 A2 A3 : Option Addr) (c1 c2 c3 : Nat) (ws : List ByteArray) (ns bs : List Int) (w : World) (he : Env w)
    (hC1 : Kd.string.C w A1 ws.length ws) (hC2 : (Kd.int .i64).C w A2 ns.length ns) (hC3 : (Kd.int .u8).C w A3 bs.length bs) (hl1 : ws.length ≤ c1) (hl2 : ns.length ≤ c2) (hl3 : bs.length ≤ c3)
    (hn : ∀ n ∈ ns, -9223372036854775808 ≤ n ∧ n ≤ 9223372036854775807) (hb : ∀ b ∈ bs, 0 ≤ b ∧ b < 256) :
    Calls Tryz.prog 4 #[.agg #[.int .i64 l, .string v, .slice A1 ws.length c1, .slice A2 ns.length c2, .slice A3 bs.length c3]] w fun e w' => e = .returned (.bool true) ∧ Below w.heap.size w w' := by
  obtain ⟨k, b, hk, hf⟩ := heavy_law l v ws ns bs
  have hh : ∀ W, Below w.heap.size w W → Calls Tryz.prog 13 #[.agg #[.int .i64 l, .string v, .slice A1 ws.length c1, .slice A2 ns.length c2, .slice A3 bs.length c3]] W fun e w' => e = .returned (.bool b) ∧ Below W.heap.size W w' := fun W hW =>
    radomelaw40_heavy.calls k _ _ _ _ _ _ _ _ _ _ _ b W (Kd.C_below hC1 hW) hl1 (Kd.C_below hC2 hW) hl2 (Kd.C_below hC3 hW) hl3 hk
  cases b
  · obtain ⟨h1, h2, h3, h4, h5⟩ := hf rfl
    exact texts_light l v A1 A2 A3 c1 c2 c3 ws ns bs w he hC1 hC2 hC3 hl1 hl2 hl3 (by omega) (by omega) (by omega) (by omega) hn hb (fun x hx => by have := h5 x hx; omega) hh
  · exact texts_heavy l v A1 A2 A3 c1 c2 c3 ws ns bs w he hh

theorem c9 : Tryz.prog.cellsOf 9 = 1 := by kernel_rfl
theorem c2 : Tryz.prog.cellsOf 2 = 1 := by kernel_rfl
theorem c5 : Tryz.prog.cellsOf 5 = 1 := by kernel_rfl
theorem c3 : Tryz.prog.cellsOf 3 = 1 := by kernel_rfl
theorem c33 : Tryz.prog.cellsOf 33 = 1 := by kernel_rfl
theorem c34 : Tryz.prog.cellsOf 34 = 1 := by kernel_rfl
theorem c35 : Tryz.prog.cellsOf 35 = 1 := by kernel_rfl
theorem c38 : Tryz.prog.cellsOf 38 = 5 := by kernel_rfl
theorem laidOut : laidOutB Tryz.prog = true := by kernel_rfl
/-- A row whose cells are known. -/
theorem C_cells {α : Type} {enc : α → Value} {h1 : ∀ x, (enc x).oneCell' = true} (d : α) (W : World) (a : Addr) (xs : List α) (hl : xs.length ≤ 9223372036854775807) (h : ∀ i, i < xs.length → W.cell? (a.add i) = some (enc (xs.getD i d))) : (Kd.scalar enc h1).C W (some a) xs.length xs := by
  refine ⟨rfl, hl, fun _ => ⟨a, rfl, fun j p hj => ⟨[enc p], rfl, rfl, fun i u hi => ?_⟩⟩⟩
  have hlt := (List.getElem?_eq_some_iff.1 hj).1
  cases i with
  | zero =>
    cases hi
    have := h j hlt
    rw [List.getD_eq_getElem?_getD, hj, Option.getD_some] at this
    simpa [Kd.scalar] using this
  | succ i => cases hi
theorem row_strings {H : Type} {enc : TypeId × Value → H} {W : World} {n : Nat} {v : Value} {x : DataW H × List MemPlace} (h : DataW.trod enc Tryz.prog W 0 (fun _ => true) true n 33 [v] = some x) :
    ∃ (A : Option Addr) (c : Nat) (ws : List ByteArray), v = .slice A ws.length c ∧ Kd.string.C W A ws.length ws ∧ ws.length ≤ c := by
  rcases open_strings Tryz.underlying33 Tryz.underlying9 c9 h with ⟨hcs, _⟩ | ⟨a, len, cap, ss, hcs, _, hl, hm, hz, _, hcell, _⟩
  · cases hcs
    exact ⟨none, 0, [], rfl, Kd.C_nil _ _, Nat.le_refl _⟩
  · cases hcs
    simp only [if_true] at hz
    have ht : (ss.take len).length = len := by rw [List.length_take]; omega
    refine ⟨some a, cap, ss.take len, by rw [ht], ?_, by omega⟩
    refine C_cells (h1 := fun _ => rfl) ByteArray.empty W a (ss.take len) (by unfold maxLen at hm; omega) (fun i hi => ?_)
    rw [ht] at hi
    rw [hcell i (by omega)]
    simp [List.getD, hi]
theorem row_ints {H : Type} {enc : TypeId × Value → H} {W : World} {n : Nat} {k : IntKind} {h1 : ∀ x : Int, (Value.int k x).oneCell' = true} {t e : TypeId} (ht : Tryz.prog.underlying t = some (.slice e)) (he : Tryz.prog.underlying e = some (.int k)) (hc : Tryz.prog.cellsOf e = 1) {v : Value} {x : DataW H × List MemPlace} (h : DataW.trod enc Tryz.prog W 0 (fun _ => true) true n t [v] = some x) :
    ∃ (A : Option Addr) (c : Nat) (ns : List Int), v = .slice A ns.length c ∧ (Kd.scalar (Value.int k) h1).C W A ns.length ns ∧ ns.length ≤ c ∧ ∀ n ∈ ns, (Lit.int k n).wf = true := by
  rcases open_ints ht he hc h with ⟨hcs, _⟩ | ⟨a, len, cap, zs, hcs, _, hl, hm, hz, _, hcell, hw⟩
  · cases hcs
    exact ⟨none, 0, [], rfl, Kd.C_nil _ _, Nat.le_refl _, fun _ h => by cases h⟩
  · cases hcs
    simp only [if_true] at hz
    have ht : (zs.take len).length = len := by rw [List.length_take]; omega
    refine ⟨some a, cap, zs.take len, by rw [ht], ?_, by omega, fun n hn => hw n (List.mem_of_mem_take hn)⟩
    refine C_cells 0 W a (zs.take len) (by unfold maxLen at hm; omega) (fun i hi => ?_)
    rw [ht] at hi
    rw [hcell i (by omega)]
    simp [List.getD, hi]
set_option maxRecDepth 100000 in
theorem open_cmd {H : Type} {enc : TypeId × Value → H} {W : World} {base : Nat} {v : Value} {d : DataW H} {p : List MemPlace} (hval : Value.okWide Tryz.prog W .any base 38 v) (h : DataW.Trod enc Tryz.prog W 0 (fun _ => true) true 38 v d p) :
    ∃ (l : Int) (s : ByteArray) (A1 A2 A3 : Option Addr) (c1 c2 c3 : Nat) (ws : List ByteArray) (ns bs : List Int), v = .agg #[.int .i64 l, .string s, .slice A1 ws.length c1, .slice A2 ns.length c2, .slice A3 bs.length c3] ∧
      Kd.string.C W A1 ws.length ws ∧ (Kd.int .i64).C W A2 ns.length ns ∧ (Kd.int .u8).C W A3 bs.length bs ∧ ws.length ≤ c1 ∧ ns.length ≤ c2 ∧ bs.length ≤ c3 ∧ (∀ n ∈ ns, -9223372036854775808 ≤ n ∧ n ≤ 9223372036854775807) ∧ (∀ b ∈ bs, 0 ≤ b ∧ b < 256) := by
  obtain ⟨cs, rfl, hsz⟩ := okWide_struct Tryz.underlying38 hval
  obtain ⟨ls⟩ := cs
  match ls, hsz.trans c38 with
  | [x0, x1, x2, x3, x4], _ =>
    obtain ⟨fuel, hf⟩ := h
    obtain ⟨xs, n, _, hx, _, hlen, hg⟩ := DataW.trod_struct Tryz.underlying38 hf
    have g0 : DataW.trod enc Tryz.prog W 0 (fun _ => true) true n 3 [x0] = xs[0]? := by simpa [Value.cells, c3] using hg 0 _ rfl
    have g1 : DataW.trod enc Tryz.prog W 0 (fun _ => true) true n 9 [x1] = xs[1]? := by simpa [Value.cells, c9] using hg 1 _ rfl
    have g2 : DataW.trod enc Tryz.prog W 0 (fun _ => true) true n 33 [x2] = xs[2]? := by simpa [Value.cells, c33] using hg 2 _ rfl
    have g3 : DataW.trod enc Tryz.prog W 0 (fun _ => true) true n 34 [x3] = xs[3]? := by simpa [Value.cells, c34] using hg 3 _ rfl
    have g4 : DataW.trod enc Tryz.prog W 0 (fun _ => true) true n 35 [x4] = xs[4]? := by simpa [Value.cells, c35] using hg 4 _ rfl
    clear hg hval hsz hf
    match xs, hlen with
    | [y0, y1, y2, y3, y4], _ =>
      obtain ⟨l, e0, _, _⟩ := DataW.trod_int Tryz.underlying3 (show _ = some y0 from g0)
      obtain ⟨s, e1, _, _⟩ := DataW.trod_string Tryz.underlying9 (show _ = some y1 from g1)
      obtain ⟨A1, c1, ws, e2, hC1, hl1⟩ := row_strings (show _ = some y2 from g2)
      obtain ⟨A2, c2, ns, e3, hC2, hl2, hw2⟩ := row_ints (k := .i64) (h1 := fun _ => rfl) Tryz.underlying34 Tryz.underlying2 c2 (show _ = some y3 from g3)
      obtain ⟨A3, c3, bs, e4, hC3, hl3, hw3⟩ := row_ints (k := .u8) (h1 := fun _ => rfl) Tryz.underlying35 Tryz.underlying5 c5 (show _ = some y4 from g4)
      cases e0
      cases e1
      subst e2 e3 e4
      refine ⟨l, s, A1, A2, A3, c1, c2, c3, ws, ns, bs, rfl, hC1, hC2, hC3, hl1, hl2, hl3, fun n hn => ?_, fun b hb => ?_⟩
      · have := hw2 n hn
        simp [Lit.wf, IntKind.min, IntKind.max, IntKind.signed, IntKind.bits] at this
        omega
      · have := hw3 b hb
        simp [Lit.wf, IntKind.min, IntKind.max, IntKind.signed, IntKind.bits] at this
        omega

set_option maxRecDepth 100000 in
theorem texts_lifted (os : Os) (started : os.Started) (H : Type) (enc : TypeId × Value → H) :
    ReturnsInHanded {} Tryz.checked os 4 .any (fun w args => (Rows.scriptTextsSpec.pre enc Tryz.prog Tryz.f4 [] false w args ∧ laidMetH Tryz.prog laid8 w) ∧ sizedMet enc Tryz.prog Tryz.f4 (OpenSpec.ofChange Rows.scriptTextsSpec) false w args)
      (Rows.scriptTextsSpec.post enc Tryz.prog Tryz.f4 false true false false) := by
  refine returnsInHanded_of_change_and (C := Tryz.checked) (X := fun w _ => laidMetH Tryz.prog laid8 w) (fun _ _ _ hh h => h.of_heap hh) own started (by kernel_rfl) Tryz.func4
    (ChangeSpec.witness_shaped (enc := enc) (C := Tryz.checked) (os := os) (X := fun w _ => laidMetH Tryz.prog laid8 w) false (laidWorld os) #[.agg #[.int .i64 0, .string ⟨#[]⟩, .slice none 0 0, .slice none 0 0, .slice none 0 0]] 8 (laidWorld_os _)
      (World.shaped_of_ZipB (by kernel_rfl) (by kernel_rfl)) (by kernel_rfl) (by kernel_rfl) (by kernel_rfl) (laidWorld_met os _)) ?_
  intro W base args ds gs before hval0 hW _ _ hL _
  have hval : ∀ (j : Nat) t v, Tryz.f4.params[j]? = some t → args[j]? = some v → Value.okWide Tryz.prog W .any base t v := hval0
  have hW' := hW
  obtain ⟨p, q, hA0, hV, rfl, _, _⟩ := hW
  have hA : DataW.TrodAll enc Tryz.prog W 0 (fun _ => true) true Tryz.f4.params.toList args.toList ds p := hA0
  rw [Tryz.params4] at hA hval
  obtain ⟨v0, d0, rfl, rfl, h0⟩ := trodAll_one hA
  obtain ⟨rfl, rfl⟩ := trodVars_none hV
  obtain ⟨l, s, A1, A2, A3, c1, c2, c3, ws, ns, bs, rfl, hC1, hC2, hC3, hl1, hl2, hl3, hn, hb⟩ := open_cmd (hval 0 38 v0 rfl rfl) h0
  have hlt : ∀ x ∈ p, x.block < W.heap.size := fun x hx => by simpa using hW'.lt x (List.mem_append_left _ hx)
  refine (texts_all l s A1 A2 A3 c1 c2 c3 ws ns bs W (env_of_laid hL) hC1 hC2 hC3 hl1 hl2 hl3 hn hb).mono fun e W' ⟨he, hbl⟩ => ?_
  subst he
  simp only [List.append_nil] at hW'
  exact ⟨_, rfl, _, _, _, [], _, [], hW', trodAll_mk1 (shut_bool Tryz.underlying4 _), trodAll_mk1 (Below.trod laidOut (by kernel_rfl) (of_decide_eq_true (by kernel_rfl)) h0 hbl hlt), rfl, hbl.frame _, fun h => by cases h⟩

theorem texts_said : Rows.ScriptTextsSaid :=
  OpenClaim.holds_of_wide 4 Tryz.f4 rfl rfl rfl rfl rfl rfl rfl ⟨rfl, rfl, rfl, rfl, rfl⟩ rfl rfl rfl rfl rfl (by kernel_rfl) Tryz.func4 (by kernel_rfl)
    (of_decide_eq_true (by kernel_rfl)) (by unfold Func.isWrapper; first | (rw [if_pos (by decide +kernel)]; kernel_rfl) | (rw [if_neg (by decide +kernel)]; exact ⟨rfl, rfl⟩))
    (fun os started H enc _ => texts_lifted os started H enc)
theorem texts_plain (f : FuncId) (fn : Func) (hf : Tryz.pinned.checked.prog.funcNamed "radome/radomelaw40.ScriptTexts" = some f) (hfn : Tryz.pinned.checked.prog.funcs[f]? = some fn) :
    true = Tryz.pinned.checked.prog.looks [] ∧ ∀ (j : Nat) t, fn.params[j]? = some t → Tryz.pinned.checked.prog.wantsStandIn t = false := by
  obtain rfl : f = 4 := Option.some.inj ((show Tryz.prog.funcNamed "radome/radomelaw40.ScriptTexts" = some 4 by kernel_rfl).symm.trans hf) |>.symm
  obtain rfl : fn = Tryz.f4 := (Option.some.inj (Tryz.func4.symm.trans hfn)).symm
  refine ⟨by kernel_rfl, fun j t ht => ?_⟩
  rw [Tryz.params4] at ht
  obtain rfl : t = 38 := by simpa using Array.mem_of_getElem? ht
  exact (show Tryz.prog.wantsStandIn 38 = false by kernel_rfl)
theorem texts_card : Rows.ScriptTextsCardSaid :=
  Claim7.holds_tied_plain_at .later [] _ _ _ _ texts_said (fun _ h => by cases h) (by kernel_rfl) (fun _ h => by cases h) scriptTexts_row_tie rfl ⟨rfl, rfl⟩ (by kernel_rfl) rfl texts_plain (by kernel_rfl)
#print axioms texts_card
end Go.Proofs.YtfiacgkhkonilaaGreatDoor
