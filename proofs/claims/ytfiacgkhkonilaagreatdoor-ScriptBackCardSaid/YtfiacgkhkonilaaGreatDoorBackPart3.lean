/- Part 3 of a proof: Quiet, AppIn, Digits, Hex, Need, Command -/
import Derived.Test.YtfiacgkhkonilaaGreatDoorBackPart2
import Derived.Sort.BigQuietIn
import Derived.OwnWalkIn
import Derived.TacticsInMore
import Derived.Test.YtfiacgkhkonilaaGreatDoorWWords
import Derived.Maps.AppendAt
import Derived.Test.YtfiacgkhkonilaaGreatDoorPneedOfx1
import Derived.Test.YtfiacgkhkonilaaGreatDoorPrightx1
import Derived.Deep.RegionHeld3
import Derived.WalkSpells
import Derived.Outline
/- A region that draws its order and only reads, within a round of a range over a function: walked once, in the order of the text; no program in sight. -/
namespace Go.Proofs.YtfiacgkhkonilaaGreatDoor
open Go
variable {F : Fence} {n : Nat} {P : Program} {ops : Array Oper} {C : World → Prop}

def noDefer (o : Oper) : Bool := match o.op with | .defer _ => false | _ => true
theorem noDefer_ne {o : Oper} (h : noDefer o = true) : ∀ c, o.op ≠ .defer c := fun c e => by simp [noDefer, e] at h

theorem wpIn_of_quietR {o : Oper} {a : Act} {K : Act → Prop} {K' : Act → World → Prop} {Q' : Exit → Act → World → Prop} {w : World} (hd : noDefer o = true) (hw : C w) (h : ∀ a w', C w' → K a → K' a w')
    (ha : o.askedIn F P a C) (hh : o.quietIn F n P a C K) : o.wpIn F n P a w K' Q' := by
  obtain ⟨v, h1, h2⟩ := hh
  have h3 := h1 w hw
  unfold Oper.quietAtIn at h3
  unfold Oper.wpIn
  refine ⟨ha w hw, ?_⟩
  rw [Oper.semAt_plain F _ _ (noDefer_ne hd)]
  generalize (execOp a.eval o).run P w = r at *
  cases r with
  | ok x w' =>
    cases x <;> simp only [Oper.quietUponIn] at h3 <;> simp only [Oper.uponIn]
    case value u =>
      obtain ⟨e1, e2⟩ := h3
      rw [e1, e2]
      exact h _ _ hw h2
    case skip =>
      obtain ⟨e1, e2⟩ := h3
      rw [e1, ← e2]
      exact h _ _ hw h2
    case enter f args =>
      obtain ⟨e1, hd, hc⟩ := h3
      rw [e1]
      exact ⟨hd, hc.mono fun e w'' ⟨he, hw''⟩ => by subst he; exact h _ _ hw'' h2⟩
  | halt x w' => simp only [Oper.quietUponIn] at h3

theorem wpOpIn_of_quietR {i : Nat} {a : Act} {K : Act → Prop} {K' : Act → World → Prop} {Q' : Exit → Act → World → Prop} {w : World} (hd : ∀ o, ops[i]? = some o → noDefer o = true) (hC : C w) (h : ∀ a w', C w' → K a → K' a w')
    (hh : qOpIn F n P ops C i K a) : wpOpIn F n P ops Q' i K' a w := by
  unfold qOpIn at hh
  unfold wpOpIn
  split
  · rename_i ho; simp only [ho] at hh; exact h _ _ hC hh
  · rename_i o ho
    simp only [ho] at hh
    obtain ⟨ha, hh⟩ := hh
    split
    · rename_i hw; simp only [hw, if_true] at hh; exact wpIn_of_quietR (hd o ho) hC h ha hh
    · rename_i hw; simp only [hw] at hh; exact ⟨ha w hC, h _ _ hC hh⟩

theorem wpAnyIn_of_quietR {md : Region.Mode} {Q : Act → Prop} {Q' : Exit → Act → World → Prop} (hd : ∀ (i : Nat) o, ops[i]? = some o → noDefer o = true) (hQ : ∀ a w, C w → Q a → Q' .normal a w) : ∀ (fuel : Nat) (listed : Array Bool) (a : Act) (w : World), C w →
    wpAnyQIn F n P md ops C Q fuel listed a → wpAnyIn F n P md ops Q' fuel listed a w
  | 0, _, _, _, hw, h => ⟨h.1, hQ _ _ hw h.2⟩
  | fuel + 1, _, _, _, hw, h => ⟨fun h0 => hQ _ _ hw (h.1 h0), fun i hi => wpOpIn_of_quietR (hd i) hw (fun a' w' hw' => wpAnyIn_of_quietR hd hQ fuel _ a' w' hw') (h.2 i hi)⟩

theorem wpIn_region_quietR {id : Nat} {Q : Exit → Act → World → Prop} {a : Act} {w : World} {l : List Oper} (hd : l.all noDefer = true) (hm : P.follows .mixedOrders = true) (hB : Region.lexB .any l.toArray = true)
    (h : wpQuietIn F n P l.toArray (fun w' => ∃ n, w' = w.drewN n) (fun a' => ∀ w', (∃ n, w' = w.drewN n) → Q .normal a' w') l a) : (Code.region id l.toArray true).wpIn F n P Q a w := by
  simp only [Region.lexB, Bool.and_eq_true] at hB
  have hd' : ∀ (i : Nat) o, l.toArray[i]? = some o → noDefer o = true := fun i o hi => by
    rw [List.getElem?_toArray] at hi
    exact List.all_eq_true.1 hd o (List.mem_of_getElem? hi)
  refine wpIn_region_any hm (wpAnyIn_of_quietR (C := fun w' => ∃ n, w' = w.drewN n) (Q := fun a' => ∀ w', (∃ n, w' = w.drewN n) → Q .normal a' w') hd' (fun _ w' hw' h => h w' hw') _ _ _ _ ⟨1, rfl⟩ ?_)
  have := wpAnyQIn_lex (F := F) (n := n) (C := fun w' => ∃ n, w' = w.drewN n) (md := .any) hB.1 l 0 (Array.replicate l.toArray.size false) a (by simp) (by simpa using hB.2) h
  simpa using this
end Go.Proofs.YtfiacgkhkonilaaGreatDoor

/- append of one element to a row of one's own, inside a fence (a round of a range over a function). -/
namespace Go.Proofs.YtfiacgkhkonilaaGreatDoor
open Go Go.RowKit Go.Proofs.YtfiacgkhkonilaaGreatDoorW.PrintWords

theorem R_append_in {F : Fence} {n : Nat} {P : Program} {ops : Array Oper} {rest : List Oper} {o : Oper} {a : Act} {Q : Exit → Act → World → Prop} {α : Type} (d : Kd α) {W : World} (base : Nat) (hgd : o.guard = none) (s x : Operand) (t e : TypeId) (z : Value) (bytes : Nat)
    (ho : o.op = .call { callee := .builtin .append, args := #[s, x], argTypes := #[t, t] })
    (ht : P.underlying t = some (.slice e)) (hinfo : (P.info? e).map (fun i => (i.zero, i.size, i.bytes)) = some (some z, d.sz, bytes)) (hz : z.cells.size = d.sz) (hs0 : 0 < d.sz) (hb0 : 0 < bytes)
    (v : Value) (xs : List α) (p : α) (cs : List Value) (ok okp : Nat → Prop) (hs : a.eval s = v) (hx : a.eval x = .slice (some ⟨W.heap.size, 0, none⟩) 1 1) (hp : d.M W base okp p cs) (hokp : ∀ k, okp k → ok k ∧ some k ≠ v.ownBlock) (hfresh : ∀ k, W.heap.size ≤ k → ok k)
    (HO : d.R e W base ok v xs) (hbase : base ≤ W.heap.size) (hl : (xs.length + 1) * bytes ≤ 140737488355328)
    (h : ∀ v1 w1, d.R e w1 base ok v1 (xs ++ [p]) → W.grownBy w1 v.ownBlock → (v1.ownBlock = v.ownBlock ∨ ∃ b, v1.ownBlock = some b ∧ W.heap.size ≤ b) → wpListIn F n P ops Q rest (a.put o.dst v1) w1) :
    wpListIn F n P ops Q (o :: rest) a (W.alloc (.cells cs.toArray e)) := by
  obtain ⟨h0, inner, hown, hr⟩ := HO
  obtain ⟨i0, hi, hzz⟩ := Option.map_eq_some_iff.1 hinfo
  simp only [Prod.mk.injEq] at hzz
  obtain ⟨hz0, hz1, hz2⟩ := hzz
  have hlen : xs.length + 1 ≤ 140737488355328 := Nat.le_trans (Nat.le_mul_of_pos_right _ hb0) hl
  have hcl : cs.length = d.sz := d.K_len (d.K_of_M hp)
  refine wpListIn_plain hgd fun K hK' => ?_
  obtain ⟨v', w', hrun, h2, h3, _, h5⟩ := run_append_own_at (P := P) (w := W.alloc (.cells cs.toArray e)) base t o.type e i0 z d.sz bytes ht hi hz0 hz1 hz2 hz hs0 v xs.length inner (hown.alloc _) ⟨W.heap.size, 0, none⟩ 1 1 cs (by rw [hcl]; simp)
    (by simpa using World.news_of_block (cs := cs.toArray) (t := e) (fr := (0, 0)) (heap_alloc_new W (.cells cs.toArray e))) (d.K_one (d.K_of_M hp)) (by simp only [maxLen]; omega) hl (by simp; omega)
  have hg1 : W.grownBy w' v.ownBlock := World.grownBy.trans (World.grownBy_alloc W _ _) h3
  have hat : v'.ownBlock = v.ownBlock ∨ ∃ b, v'.ownBlock = some b ∧ W.heap.size ≤ b := h5.imp id (fun e => ⟨_, e, by simp⟩)
  unfold Oper.wpIn
  refine ⟨?_, ?_⟩
  · simp [Oper.about, ho, resolve, Target.leads, Sem.run_pure]
  · rw [Oper.semAt_plain F _ _ (by rw [ho]; intro c hc'; cases hc')]
    simp [execOp, ho, resolve, invoke, builtin, hs, hx, hrun, Result.andThen]
    exact hK' _ _ (h v' w' (Kd.R_appended h0 hr hp hokp hfresh h2 hg1 hat) hg1 hat)
end Go.Proofs.YtfiacgkhkonilaaGreatDoor

/- The walk of script.digits: the bytes of hexadecimal digits. -/
namespace Go.Proofs.YtfiacgkhkonilaaGreatDoor
open Go Go.RowKit Go.Shelf Go.Proofs.YtfiacgkhkonilaaGreatDoorW.PrintWords Go.Proofs.YtfiacgkhkonilaaGreatDoorW.PrintLast Go.Proofs.YtfiacgkhkonilaaGreatDoorW.PrintMore
attribute [local go_sem] Oper.semAt_some
theorem wide_fn (f : Nat) : Fence.wide.fn f := trivial
attribute [local simp] wide_fn
attribute [local go_sem] wide_fn

theorem info5 : (Tryz.prog.info? 5).map (fun i => (i.zero, i.size, i.bytes)) = some (some (.int .u8 0), 1, 1) := by kernel_rfl

set_option maxRecDepth 100000 in
set_option maxHeartbeats 1000000 in
theorem chunk_call (A : Option Addr) (len cap : Nat) (w : World) :
    Calls Tryz.prog 57 #[.slice A len cap, .int .i64 2] w fun e w' => e = .returned (.func (.func 72) #[] #[.pointer (some ⟨w.heap.size, 0, none⟩), .pointer (some ⟨w.heap.size + 1, 0, none⟩)]) ∧ w' = (w.alloc (.cells #[.slice A len cap] 35)).alloc (.cells #[.int .i64 2] 3) := by
  go_enter Tryz.func57, Tryz.ntmps57
  go_wp2
  go_ret
  exact ⟨rfl, rfl⟩

theorem leave0 {F : Fence} {n : Nat} {P : Program} {fn : Func} {R : Ending → World → Prop} {a : Act} {w : World} {v : Value} (hd : a.defers = []) (hr : (results fn a.tmps).run P w = .ok v w) (h : R (.returned v) w) : bodyPostM F n P fn R .ret a w := by
  show LeavesInM F n P fn a.tmps R a.defers .returning w
  rw [hd]; exact ⟨v, hr, h⟩
theorem leave1 {F : Fence} {n : Nat} {P : Program} {fn : Func} {R : Ending → World → Prop} {a : Act} {w : World} {v : Value} {D : Nat} (hd : a.defers = [{ target := .collected D, args := #[] }]) (hK : w.heap[D]? = some (.deferred (some [])))
    (hr : (results fn a.tmps).run P (w.putObj D (.deferred none)) = .ok v (w.putObj D (.deferred none))) (h : R (.returned v) (w.putObj D (.deferred none))) : bodyPostM F n P fn R .ret a w := by
  show LeavesInM F n P fn a.tmps R a.defers .returning w
  rw [hd]; exact ⟨by simp, .inl ⟨_, _, rfl, run_takeDeferred hK, v, hr, h⟩⟩

set_option maxRecDepth 100000 in
set_option maxHeartbeats 1000000 in
theorem digits_short (s : ByteArray) (w : World) (h : s.toList = [] ∨ s.size % 2 ≠ 0) :
    CallsIn Fence.wide 5 Tryz.prog 38 #[.string s] w fun e w' => e = .returned (.tuple #[.slice none 0 0, .bool false]) ∧ Below w.heap.size w w' := by
  refine callsIn_of_wp_marks Tryz.func38 rfl trivial ?_ rfl
  simp only [Tryz.ntmps38, List.size_toArray, List.length_cons, List.length_nil, Nat.reduceAdd, Nat.reduceSub, Array.replicate_succ, Array.replicate_zero, List.push_toArray, List.append_toArray, List.nil_append, List.cons_append]
  by_cases h1 : s.toList = []
  · have h2 : s.toList.isEmpty = true := by rw [h1]; rfl
    have H := Lib.hid h1
    clear h h1
    gi_wp2
    exact leave0 (v := .tuple #[.slice none 0 0, .bool false]) rfl (by simp [results, Tryz.results38, go_sem]) ⟨rfl, ((Below.refl _ _).alloc (Nat.le_refl _) _).alloc (by simp) _⟩
  · have h2 : s.toList.isEmpty = false := by simpa using h1
    have h3 : ((s.size : Int) % 2 != 0) = true := by rw [bne_iff_ne]; rcases h with h | h; exact absurd h h1; omega
    have H := Lib.hid h1
    clear h h1
    gi_wp2
    exact leave0 (v := .tuple #[.slice none 0 0, .bool false]) rfl (by simp [results, Tryz.results38, go_sem]) ⟨rfl, ((Below.refl _ _).alloc (Nat.le_refl _) _).alloc (by simp) _⟩

/-- What strings.IndexByte answers of a letter. -/
def hexI (c : Int) : Int := Lib.indexByte hexa c.toNat.toUInt8
theorem hexI_any (c : Int) (w : World) : Calls Tryz.prog 58 #[.string ⟨#[48, 49, 50, 51, 52, 53, 54, 55, 56, 57, 97, 98, 99, 100, 101, 102]⟩, .int .u8 c] w fun e w' => e = .returned (.int .i64 (hexI c)) ∧ w' = w := Tryz.strings_IndexByte _ c w

theorem hexI_val (b : UInt8) : hexI (b.toNat : Int) = hexVal b := by unfold hexI hexVal; congr 1; rw [Int.toNat_natCast]; simp
theorem hexVal_range (b : UInt8) : -1 ≤ hexVal b ∧ hexVal b ≤ 15 := by
  have h : ∀ n, n < 256 → -1 ≤ Lib.indexByte hexa (UInt8.ofNat n) ∧ Lib.indexByte hexa (UInt8.ofNat n) ≤ 15 := by decide +kernel
  have := h b.toNat b.toNat_lt
  rwa [UInt8.ofNat_toNat] at this

theorem or_pack (a b : Int) (ha : 0 ≤ a) (ha' : a ≤ 15) (hb : 0 ≤ b) (hb' : b ≤ 15) : bits .or .i64 (a * 16) b % 256 = a * 16 + b := by
  have h : ∀ n : Nat, n < 16 → ∀ m : Nat, m < 16 → bits .or .i64 ((n : Int) * 16) (m : Int) % 256 = (n : Int) * 16 + (m : Int) := by decide +kernel
  have := h a.toNat (by omega) b.toNat (by omega)
  rwa [Int.toNat_of_nonneg ha, Int.toNat_of_nonneg hb] at this

/-- The pair k of a word's letters, as a byte. -/
def pv (l : B) (k : Nat) : Int := hexVal (l.getD (2 * k) 0) * 16 + hexVal (l.getD (2 * k + 1) 0)
def pok (l : B) (k : Nat) : Prop := 0 ≤ hexVal (l.getD (2 * k) 0) ∧ 0 ≤ hexVal (l.getD (2 * k + 1) 0)

def allOk (l : B) (m : Nat) : Prop := ∀ q, q < m → pok l q
theorem keeps_drewN (W : World) (n : Nat) : KeepsOthers W (W.drewN n) := ⟨Nat.le_refl _, fun _ _ h _ => h⟩
theorem keeps_R {α : Type} {d : Kd α} {e base : Nat} {W w2 : World} {ok : Nat → Prop} {v : Value} {xs : List α} (h : d.R e W base ok v xs) (hg : W.grownBy w2 v.ownBlock) : KeepsOthers W w2 :=
  KeepsOthers.of_grownBy hg (fun j o hj ho => by obtain ⟨cells, hc⟩ := Kd.R_typed h j hj; rw [hc] at ho; cases ho; rfl)

theorem heap_noncell {A W : World} {row : Option Nat} {k : Nat} {c : Array Value} {t : TypeId} {fr : Nat × Nat} (h : A.heap[k]? = some (.cells c t fr)) (hg : A.grownBy W row) (hr : ∀ r, row = some r → ∃ o : Obj, A.heap[r]? = some o ∧ o.isCells = false) : W.heap[k]? = some (.cells c t fr) :=
  (grownBy_keeps_cells hg hr h rfl).trans h
theorem R_noncell {α : Type} {d : Kd α} {e base : Nat} {A W : World} {ok : Nat → Prop} {v : Value} {xs : List α} {row : Option Nat} (h : d.R e A base ok v xs) (hg : A.grownBy W row) (hr : ∀ r, row = some r → ∃ o : Obj, A.heap[r]? = some o ∧ o.isCells = false) : d.R e W base ok v xs :=
  Kd.R_mono (Kd.R_move (Kd.R_bound h) (fun k hk => by obtain ⟨_, _, _, q, _, cells, hc⟩ := hk; exact grownBy_keeps_cells hg hr hc rfl)) (fun k hk => hk.1)

/-- What holds between two rounds of digits. -/
structure DI (w : World) (Z : Nat) (s : ByteArray) (k : Nat) (W : World) : Prop where
  r0 : W.heap[w.heap.size]? = some (.cells #[.slice none 0 0] 35 (0, 0))
  r1 : W.heap[w.heap.size + 1]? = some (.cells #[.bool false] 4 (0, 0))
  out : ∃ v, W.heap[Z]? = some (.cells #[v] 35 (0, 0)) ∧ (Kd.int .u8).R 5 W w.heap.size (fun k => k < Z ∨ Z + 4 ≤ k) v ((List.range k).map (pv s.data.toList))
  src : ∃ c fr, W.heap[Z + 1]? = some (.cells c 5 fr) ∧ ∀ j, j < s.size → c[j]? = some (.int .u8 (s.data.toList.getD j 0).toNat)
  below : Below w.heap.size w W
  size : Z + 4 ≤ W.heap.size
  oks : ∀ q, q < k → pok s.data.toList q

theorem DI.noncell {w : World} {Z : Nat} {s : ByteArray} {k : Nat} {A W : World} {row : Option Nat} (hZ : w.heap.size ≤ Z) (h : DI w Z s k A) (hg : A.grownBy W row) (hr : ∀ r, row = some r → Z + 4 ≤ r ∧ ∃ o : Obj, A.heap[r]? = some o ∧ o.isCells = false) : DI w Z s k W where
  r0 := heap_noncell h.r0 hg (fun r e => (hr r e).2)
  r1 := heap_noncell h.r1 hg (fun r e => (hr r e).2)
  out := by obtain ⟨v, h1, h2⟩ := h.out; exact ⟨v, heap_noncell h1 hg (fun r e => (hr r e).2), R_noncell h2 hg (fun r e => (hr r e).2)⟩
  src := by obtain ⟨c, fr, h1, h2⟩ := h.src; exact ⟨c, fr, heap_noncell h1 hg (fun r e => (hr r e).2), h2⟩
  below := h.below.grown hg h.below.size (fun r e => by have := (hr r e).1; omega)
  size := Nat.le_trans h.size hg.size
  oks := h.oks

theorem DI.own {w : World} {Z : Nat} {s : ByteArray} {k : Nat} {A W : World} (hZ : w.heap.size + 2 ≤ Z) (h : DI w Z s k A) (hg : A.grownBy W (some (Z + 2))) : DI w Z s k W where
  r0 := blk_grown h.r0 hg (fun e => by injection e; omega)
  r1 := blk_grown h.r1 hg (fun e => by injection e; omega)
  out := by obtain ⟨v, h1, h2⟩ := h.out; exact ⟨v, blk_grown h1 hg (fun e => by injection e; omega), Kd.R_grown h2 hg (fun k hk e => by injection e; omega)⟩
  src := by obtain ⟨c, fr, h1, h2⟩ := h.src; exact ⟨c, fr, blk_grown h1 hg (fun e => by injection e; omega), h2⟩
  below := h.below.grown hg h.below.size (fun r e => by injection e; omega)
  size := Nat.le_trans h.size hg.size
  oks := h.oks

theorem results38 (tmps : Array Value) (W : World) (a b : Nat) (A : Option Addr) (n c : Nat) (x : Bool) (h2 : tmps.getD 2 undef = .pointer (some ⟨a, 0, none⟩)) (h3 : tmps.getD 3 undef = .pointer (some ⟨b, 0, none⟩))
    (c0 : W.cell? ⟨a, 0, none⟩ = some (.slice A n c)) (c1 : W.cell? ⟨b, 0, none⟩ = some (.bool x)) : (results Tryz.f38 tmps).run Tryz.prog W = .ok (.tuple #[.slice A n c, .bool x]) W := by
  rw [Array.getD_eq_getD_getElem?] at h2 h3
  simp [results, Tryz.results38, go_sem, h2, h3, c0, c1]
theorem below_put {B : Nat} {w W : World} {D : Nat} {o o' : Obj} (h : Below B w W) (hD : B ≤ D) (_hK : W.heap[D]? = some o) : Below B w (W.putObj D o') :=
  ⟨h.os, h.tape, h.output, by simpa using h.size, fun k hk => (World.putObj_heap_other (by omega)).trans (h.block k hk)⟩

set_option maxRecDepth 100000 in
set_option maxHeartbeats 2000000 in
theorem digits_full (s : ByteArray) (m : Nat) (w : World) (h1 : s.toList ≠ []) (hm : s.size = 2 * m) (hs : s.size ≤ 140737488351232) :
    CallsIn Fence.wide 5 Tryz.prog 38 #[.string s] w fun e w' => Below w.heap.size w w' ∧
      ((allOk s.data.toList m ∧ ∃ v, e = .returned (.tuple #[v, .bool true]) ∧ (Kd.int .u8).R 5 w' w.heap.size (fun _ => True) v ((List.range m).map (pv s.data.toList))) ∨
       ((¬ allOk s.data.toList m) ∧ e = .returned (.tuple #[.slice none 0 0, .bool false]))) := by
  refine callsIn_of_wp_marks Tryz.func38 rfl trivial ?_ rfl
  simp only [Tryz.ntmps38, List.size_toArray, List.length_cons, List.length_nil, Nat.reduceAdd, Nat.reduceSub, Array.replicate_succ, Array.replicate_zero, List.push_toArray, List.append_toArray, List.nil_append, List.cons_append]
  have h2 : s.toList.isEmpty = false := by simpa using h1
  have h3 : ((s.size : Int) % 2 != 0) = false := by rw [bne_eq_false_iff_eq]; omega
  obtain ⟨i5, hi5, hz5, hs5, hb5⟩ := info_parts info5
  have hcv := fun W : World => print_bytes (P := Tryz.prog) 9 35 5 Tryz.underlying9 Tryz.underlying35 Tryz.underlying5 s W
  have h4 : ((s.size : Int) / 2) = (m : Int) := by omega
  have H := Lib.hid h1
  have HM := Lib.hid hm
  clear h1 hm
  gi_wp2_with (first | (gi_at_make; refine wpListIn_make_own _ rfl _ _ 35 rfl w.heap.size 5 i5 (.int .u8 0) 1 Tryz.underlying35 hi5 hz5 hs5 .i64 .i64 _ m rfl rfl ?c1 ?c2 ?c3 ?c4 ?_; (case c1 => first | rfl | omega); (case c2 => rw [hb5]; omega); (case c3 => unfold maxLen; omega); (case c4 => simp; omega); intro w1 ho hg) | (gi_at_call 57; refine ((callsIn_wide.2 (chunk_call _ _ _ _))).mono ?_; rintro e w' ⟨rfl, rfl⟩))
  have hcap1 := grownCap_ge (w1.alloc (.cells #[.slice (some ⟨w.heap.size + 1 + 1, 0, none⟩) 0 m] 35)) s.size 0 5
  have hcap2 := grownCap_le_maxLen (w1.alloc (.cells #[.slice (some ⟨w.heap.size + 1 + 1, 0, none⟩) 0 m] 35)) s.size 0 5 (by unfold maxLen; omega)
  unfold maxLen at hcap2
  have hZs : (Lib.bytesWorld (w1.alloc (.cells #[.slice (some ⟨w.heap.size + 1 + 1, 0, none⟩) 0 m] 35)) 5 s).heap.size = w1.heap.size + 2 := by rw [Lib.bytesWorld_size, World.size_alloc]
  have hnew := Lib.bytesWorld_at_new (w1.alloc (.cells #[.slice (some ⟨w.heap.size + 1 + 1, 0, none⟩) 0 m] 35)) 5 s
  have hcells := fun j hj => Lib.bytesWorld_cell (w1.alloc (.cells #[.slice (some ⟨w.heap.size + 1 + 1, 0, none⟩) 0 m] 35)) 5 s j hj
  have hold := fun j hj => Lib.bytesWorld_at_old (w1.alloc (.cells #[.slice (some ⟨w.heap.size + 1 + 1, 0, none⟩) 0 m] 35)) 5 s j hj
  have hbb := bytes_below (Below.refl _ _) (Nat.le_refl _) 5 s (w := w1.alloc (.cells #[.slice (some ⟨w.heap.size + 1 + 1, 0, none⟩) 0 m] 35))
  rw [World.size_alloc] at hold hbb
  generalize Lib.bytesWorld (w1.alloc (.cells #[.slice (some ⟨w.heap.size + 1 + 1, 0, none⟩) 0 m] 35)) 5 s = V at *
  generalize grownCap (w1.alloc (.cells #[.slice (some ⟨w.heap.size + 1 + 1, 0, none⟩) 0 m] 35)) s.size 0 5 = cap at *
  rw [hZs]
  obtain ⟨Z, hZ⟩ : ∃ Z, w1.heap.size = Z := ⟨_, rfl⟩
  rw [hZ] at hold hbb hZs ⊢
  obtain ⟨W0, hW0⟩ : ∃ W0, (V.alloc (.cells #[.slice (some ⟨Z + 1, 0, none⟩) s.size cap] 35)).alloc (.cells #[.int .i64 2] 3) = W0 := ⟨_, rfl⟩
  have hD : w.heap.size + 2 ≤ Z := by have := hg.size; rw [hZ] at this; simpa using this
  have hsz : W0.heap.size = Z + 4 := by rw [← hW0]; simp [hZs]
  have hVW : ∀ j, j < Z + 2 → W0.heap[j]? = V.heap[j]? := fun j hj => by
    rw [← hW0]; exact (Below.heap_alloc _ _ j (by simp [hZs]; omega)).trans (Below.heap_alloc _ _ j (by rw [hZs]; exact hj))
  have hc0 : W0.heap[Z + 2]? = some (.cells #[.slice (some ⟨Z + 1, 0, none⟩) (2 * m) cap] 35 (0, 0)) := by
    rw [← hW0, ← hZs, ← HM.out]; exact (Below.heap_alloc _ _ _ (by simp)).trans (World.alloc_heap_new V _)
  have hc1 : W0.heap[Z + 2 + 1]? = some (.cells #[.int .i64 2] 3 (0, 0)) := by
    rw [← hW0]; have := World.alloc_heap_new (V.alloc (.cells #[.slice (some ⟨Z + 1, 0, none⟩) s.size cap] 35)) (.cells #[.int .i64 2] 3)
    rwa [World.size_alloc, hZs] at this
  have hbel : Below w.heap.size w W0 := by
    have b1 : Below w.heap.size w w1 := (((Below.refl _ w).alloc (Nat.le_refl _) _).alloc (by simp) _).grown hg (by simp; omega) (fun r e => by cases e)
    have b2 := (b1.alloc (by omega) (.cells #[.slice (some ⟨w.heap.size + 1 + 1, 0, none⟩) 0 m] 35)).trans (hbb.mono (by omega))
    rw [← hW0]
    exact (b2.alloc (by rw [hZs]; omega) _).alloc (by simp [hZs]; omega) _
  have hlow : ∀ j, j < Z → W0.heap[j]? = w1.heap[j]? := fun j hj => (hVW j (by omega)).trans ((hold j (by omega)).trans (Below.heap_alloc _ _ j (by omega)))
  have hDI : DI w Z s 0 W0 := by
    refine ⟨?_, ?_, ⟨.slice (some ⟨w.heap.size + 1 + 1, 0, none⟩) 0 m, ?_, ?_⟩, ?_, hbel, by omega, fun q hq => by omega⟩
    · rw [hlow _ (by omega), hg.block _ (by simp <;> omega) (by simp)]
      exact (Below.heap_alloc _ _ _ (by simp)).trans (World.alloc_heap_new w _)
    · rw [hlow _ (by omega), hg.block _ (by simp <;> omega) (by simp)]
      have := World.alloc_heap_new (w.alloc (.cells #[.slice none 0 0] 35)) (.cells #[.bool false] 4)
      rwa [World.size_alloc] at this
    · rw [hVW _ (by omega), hold _ (by omega), ← hZ]; exact World.alloc_heap_new w1 _
    · have ho' : w1.ownsRow w.heap.size 5 1 (.slice (some ⟨w.heap.size + 1 + 1, 0, none⟩) 0 m) ([] : List Int).length (encs (Value.int .u8) []) := by simpa [encs] using ho
      have hr := Kd.R_of_own (h1 := fun _ => rfl) (ok := fun k => k < Z ∨ Z + 4 ≤ k) ho' (fun k hk => by have := own_lt ho' k hk; omega)
      exact Kd.R_mono (Kd.R_move (Kd.R_bound hr) (fun k hk => hlow k (by rw [← hZ]; exact hk.2.2.1))) (fun k hk => hk.1)
    · rw [World.size_alloc, hZ] at hnew hcells
      refine ⟨_, _, (hVW _ (by omega)).trans hnew, fun j hj => ?_⟩
      rw [← hcells j hj]
      exact (cell_of_row V (Z + 1) j _ _ _ hnew).symm
  rw [hW0]
  have HDI := Lib.hid hDI
  have hZ3 : Z + 2 < W0.heap.size := by omega
  clear hold hbb hnew hcells hVW hW0 hlow hDI hbel ho hg hZs hcv hi5 hz5 hs5 hb5
  refine wpIn_rangeFunc_C rfl (by omega) (gf := 72) (lb := #[.pointer (some ⟨Z + 2, 0, none⟩), .pointer (some ⟨Z + 2 + 1, 0, none⟩)]) rfl trivial (enters_of Tryz.func72 (by kernel_rfl) rfl)
    (chunk_seq 4 (Z + 2) (Z + 1) cap m (by have := HM.out; omega) (by have := HM.out; omega) (by omega) (by omega) W0 hc0 hc1) hZ3
    (fun h k j a b => (k j a b).trans (h j a b)) (fun W l o hl j a b => World.putObj_heap_other (by omega)) (fun _ => rfl)
    (fun pre W => DI w Z s pre.length W)
    (fun c _ W => c = .ret ∧ W.heap[w.heap.size]? = some (.cells #[.slice none 0 0] 35 (0, 0)) ∧ W.heap[w.heap.size + 1]? = some (.cells #[.bool false] 4 (0, 0)) ∧ Below w.heap.size w W ∧ ¬ allOk s.data.toList m)
    (fun _ A W row h hg hr => DI.noncell (by omega) h hg (fun r e => ⟨by have := (hr r e).1; omega, (hr r e).2⟩))
    (fun c _ A W row h hg hr => ⟨h.1, heap_noncell h.2.1 hg (fun r e => (hr r e).2), heap_noncell h.2.2.1 hg (fun r e => (hr r e).2), h.2.2.2.1.grown hg h.2.2.2.1.size (fun r e => by have := (hr r e).1; omega), h.2.2.2.2⟩)
    (fun _ A W h hg => DI.own hD h hg)
    (fun c _ A W h hg => ⟨h.1, blk_grown h.2.1 hg (fun e => by injection e; omega), blk_grown h.2.2.1 hg (fun e => by injection e; omega), h.2.2.2.1.grown hg h.2.2.2.1.size (fun r e => by injection e; omega), h.2.2.2.2⟩)
    HDI.out
    (fun k => { tmps := #[.string s, undef, .pointer (some ⟨w.heap.size, 0, none⟩), .pointer (some ⟨w.heap.size + 1, 0, none⟩), .pointer (some ⟨Z, 0, none⟩), .slice (some ⟨Z + 1, 2 * k, none⟩) 2 2, undef, undef, .string s, .bool false, .bool false, .string s, .int .i64 s.size, .int .i64 (s.size % 2), .bool false, .bool false, .string s, .int .i64 s.size, .int .i64 m, .slice (some ⟨w.heap.size + 1 + 1, 0, none⟩) 0 m, .string s, .slice (some ⟨Z + 1, 0, none⟩) s.size cap, .func (.func 72) #[] #[.pointer (some ⟨Z + 2, 0, none⟩), .pointer (some ⟨Z + 2 + 1, 0, none⟩)], .slice (some ⟨Z + 1, 2 * k, none⟩) 2 2, undef, undef, undef, undef, undef, undef, undef, undef, undef, undef, undef, undef, undef, undef, undef, undef, undef, undef, undef, undef, undef, undef, undef], defers := [] })
    ?assign ?body ?done ?stop
  case assign =>
    intro l x W K hK
    gi_wp2
    exact hK
  case body =>
    intro l pre x post W hI hx
    have hxl : x = pre.length ∧ pre.length < m := by
      have h1 := congrArg (fun l : List Nat => l[pre.length]?) hx
      simp only [List.getElem?_append_right (Nat.le_refl _), Nat.sub_self, List.getElem?_cons_zero] at h1
      rw [List.getElem?_eq_some_iff] at h1
      obtain ⟨h1, h2⟩ := h1
      rw [List.getElem_range] at h2
      exact ⟨h2.symm, by simpa using h1⟩
    obtain ⟨rfl, hkm⟩ := hxl
    have hpl : (pre ++ [pre.length]).length = pre.length + 1 := by simp
    have HPL := Lib.hid hpl
    clear hx hpl
    obtain ⟨v, hv, hR⟩ := hI.out
    obtain ⟨c, fr, hc, hcb⟩ := hI.src
    have c0 : W.cell? ⟨Z + 1, 2 * pre.length, none⟩ = some (.int .u8 (s.data.toList.getD (2 * pre.length) 0).toNat) := (cell_of_row W (Z + 1) _ _ _ _ hc).trans (hcb _ (by rw [HM.out]; omega))
    have c1 : W.cell? ⟨Z + 1, 2 * pre.length + 1, none⟩ = some (.int .u8 (s.data.toList.getD (2 * pre.length + 1) 0).toNat) := (cell_of_row W (Z + 1) _ _ _ _ hc).trans (hcb _ (by rw [HM.out]; omega))
    have HV := Lib.hid hv
    have HR := Lib.hid hR
    have HI := Lib.hid hI
    clear hc hcb hv hR hI
    generalize hb0 : s.data.toList.getD (2 * pre.length) 0 = b0 at *
    generalize hb1 : s.data.toList.getD (2 * pre.length + 1) 0 = b1 at *
    have HB0 := Lib.hid hb0
    have HB1 := Lib.hid hb1
    clear hb0 hb1
    gi_wp2
    refine wpIn_region_quietR (by kernel_rfl) (by kernel_rfl) (by kernel_rfl) ?_
    repeat (gi_big_quiet_step ((gi_at_call 58; exact CallsIn.quiet_of_same (CallsIn.inRound l (callsIn_wide.2 (hexI_any _ _))))))
    refine wpQuietIn_nil ?_
    intro _ hw'
    obtain ⟨nq, hw''⟩ := hw'
    subst hw''
    have hpv : pv s.data.toList pre.length = hexVal b0 * 16 + hexVal b1 := by unfold pv; rw [HB0.out, HB1.out]
    have hpo : pok s.data.toList pre.length ↔ 0 ≤ hexVal b0 ∧ 0 ≤ hexVal b1 := by unfold pok; rw [HB0.out, HB1.out]
    have hv0 := hexI_val b0
    have hv1 := hexI_val b1
    have hr0 := hexVal_range b0
    have hr1 := hexVal_range b1
    rw [hv0, hv1]
    generalize hexVal b0 = x0 at *
    generalize hexVal b1 = x1 at *
    have HPV := Lib.hid hpv
    have HPO := Lib.hid hpo
    clear hv0 hv1 hpv hpo
    have r0 : W.cell? ⟨w.heap.size, 0, none⟩ = some (.slice none 0 0) := cell_of_row W _ 0 _ _ _ HI.out.r0
    have r1 : W.cell? ⟨w.heap.size + 1, 0, none⟩ = some (.bool false) := cell_of_row W _ 0 _ _ _ HI.out.r1
    have f0 : W.frozen? ⟨w.heap.size, 0, none⟩ = false := blk_frozen HI.out.r0 0
    have f1 : W.frozen? ⟨w.heap.size + 1, 0, none⟩ = false := blk_frozen HI.out.r1 0
    have co : W.cell? ⟨Z, 0, none⟩ = some v := cell_of_row W _ 0 _ _ _ HV.out
    by_cases hx0 : x0 < 0
    · gi_wp2
      refine ⟨(keeps_drewN W nq).trans ((KeepsOthers.setCell _ _ _).trans (KeepsOthers.setCell _ _ _)), rfl, ?_, ?_, ?_, fun h => ?_⟩
      · exact blk_far (blk_set (w := W.drewN nq) HI.out.r0 0 _) (by simp) _
      · exact blk_set (blk_far (w := W.drewN nq) HI.out.r1 (by simp) _) 0 _
      · exact ((pw_below_drewN HI.out.below nq).setCell (Nat.le_refl _) _).setCell (by simp) _
      · have := (HPO.out.1 (h _ hkm)); omega
    · by_cases hx1 : x1 < 0
      · gi_wp2
        refine ⟨(keeps_drewN W nq).trans ((KeepsOthers.setCell _ _ _).trans (KeepsOthers.setCell _ _ _)), rfl, ?_, ?_, ?_, fun h => ?_⟩
        · exact blk_far (blk_set (w := W.drewN nq) HI.out.r0 0 _) (by simp) _
        · exact blk_set (blk_far (w := W.drewN nq) HI.out.r1 (by simp) _) 0 _
        · exact ((pw_below_drewN HI.out.below nq).setCell (Nat.le_refl _) _).setCell (by simp) _
        · have := (HPO.out.1 (h _ hkm)); omega
      · have hpk := or_pack x0 x1 (by omega) (by omega) (by omega) (by omega)
        have HPK := Lib.hid hpk
        have hsrc := HI.out.src
        have hne := HR.out.1
        have HNE := Lib.hid hne
        have hszW := HI.out.size
        have hln : ((List.range pre.length).map (pv s.data.toList)).length = pre.length := by simp
        have HLN := Lib.hid hln
        have hpm : pre.length < 140737488351232 := by have := HM.out; omega
        clear hpk hne hln hsrc
        gi_wp2_with (gi_at_builtin; refine R_append_in (Kd.int .u8) (W := W.drewN nq) w.heap.size rfl (.tmp 38) (.tmp 44) 35 5 (.int .u8 0) 1 rfl Tryz.underlying35 info5 rfl (by decide) (by omega) v ((List.range pre.length).map (pv s.data.toList)) (bits .or .i64 (x0 * 16) x1 % 256) [.int .u8 (bits .or .i64 (x0 * 16) x1 % 256)] (fun k => k < Z ∨ Z + 4 ≤ k) (fun _ => False) rfl rfl ?aP (fun _ hk => hk.elim) ?aF ?aO ?aS ?aL ?_; (case aP => exact rfl); (case aF => exact (fun k hk => .inr (Nat.le_trans hszW hk))); (case aO => exact HR.out); (case aS => exact HI.out.below.size); (case aL => rw [HLN.out]; omega); intro v1 w2 ho hg2 hat; obtain ⟨A1, q1, rfl⟩ := Kd.R_slice ho; have hbk2 := blk_grown (w := W.drewN nq) HV.out hg2 (fun e => by have := HNE.out Z e.symm; omega); have c2' : w2.cell? ⟨Z, 0, none⟩ = some v := blk_cell hbk2 0; have f2' := blk_frozen hbk2 0; have HBK2 := Lib.hid hbk2; have HO := Lib.hid ho; have HG2 := Lib.hid hg2; clear hbk2 ho hg2 hat)
        have hvz : ∀ j, v.ownBlock = some j → j < Z ∨ Z + 4 ≤ j := HNE.out
        have hnew : ∀ (b : Nat) (c : Array Value) (t : TypeId) (fr : Nat × Nat), W.heap[b]? = some (.cells c t fr) → t ≠ 5 ∨ (Z ≤ b ∧ b < Z + 4) → w2.heap[b]? = some (.cells c t fr) := fun b c t fr hb ht => by
          refine (HG2.out.block b (Array.getElem?_eq_some_iff.1 hb).1 (fun e => ?_)).trans hb
          rcases ht with ht | ht
          · obtain ⟨cells, hcc⟩ := Kd.R_typed HR.out b e.symm
            rw [hb] at hcc; cases hcc; exact ht rfl
          · have := hvz b e.symm; omega
        have d0 := hnew _ _ _ _ HI.out.r0 (.inl (by decide))
        have d1 := hnew _ _ _ _ HI.out.r1 (.inl (by decide))
        obtain ⟨c, fr, hs0, hs1⟩ := HI.out.src
        have d2 := hnew _ _ _ _ hs0 (.inr ⟨by omega, by omega⟩)
        have hb2 : Below w.heap.size w w2 := (pw_below_drewN HI.out.below nq).grown HG2.out HI.out.below.size (fun r e => by rcases Kd.R_base2 HR.out with h | ⟨q, h, hq⟩ <;> rw [h] at e <;> cases e; exact hq)
        have hS : W.heap.size ≤ w2.heap.size := HG2.out.size
        refine ⟨((keeps_drewN W nq).trans (keeps_R (W := W.drewN nq) HR.out HG2.out)).trans (KeepsOthers.setCell _ _ _), fun k ka kb => ?_, ?_⟩
        · rw [Below.heap_setCell _ _ _ _ (by show k ≠ Z; omega)]
          exact HG2.out.block k (by show k < W.heap.size; omega) (fun e => by have := hvz k e.symm; omega)
        · show DI w Z s (pre ++ [pre.length]).length _
          rw [HPL.out]
          refine ⟨blk_far d0 (by show w.heap.size ≠ Z; omega) _, blk_far d1 (by show w.heap.size + 1 ≠ Z; omega) _, ⟨_, blk_set HBK2.out 0 _, ?_⟩, ⟨c, fr, ?_, hs1⟩, hb2.setCell (by show w.heap.size ≤ Z; omega) _, by simp; omega, fun q hq => ?_⟩
          · have h := Kd.R_set HO.out HBK2.out (by simp [Kd.int, Kd.scalar]) 0 (.slice A1 (pre.length + 1) q1)
            rw [HPK.out, ← HPV.out] at h
            rw [List.range_succ, List.map_append, List.map_singleton]
            simpa using h
          · rw [Below.heap_setCell _ _ _ _ (by show Z + 1 ≠ Z; omega)]; exact d2
          · rcases Nat.lt_succ_iff_lt_or_eq.1 hq with h | rfl
            · exact HI.out.oks q h
            · exact HPO.out.2 ⟨by omega, by omega⟩
  case done =>
    intro D W hD0 hI hK
    rw [List.length_range] at hI
    obtain ⟨v, hv, hR⟩ := hI.out
    obtain ⟨A1, q1, rfl⟩ := Kd.R_slice hR
    have r0 : W.cell? ⟨w.heap.size, 0, none⟩ = some (.slice none 0 0) := cell_of_row W _ 0 _ _ _ hI.r0
    have r1 : W.cell? ⟨w.heap.size + 1, 0, none⟩ = some (.bool false) := cell_of_row W _ 0 _ _ _ hI.r1
    have f0 : W.frozen? ⟨w.heap.size, 0, none⟩ = false := blk_frozen hI.r0 0
    have f1 : W.frozen? ⟨w.heap.size + 1, 0, none⟩ = false := blk_frozen hI.r1 0
    have co : W.cell? ⟨Z, 0, none⟩ = some (.slice A1 ((List.range m).map (pv s.data.toList)).length q1) := cell_of_row W Z 0 _ _ _ hv
    have HI := Lib.hid hI
    have HR := Lib.hid hR
    have HK := Lib.hid hK
    have hDW : D < W.heap.size := (Array.getElem?_eq_some_iff.1 hK).1
    clear hI hv hR hK
    gi_wp2
    have g0 := blk_far (blk_set HI.out.r0 0 (.slice A1 m q1)) (p := ⟨w.heap.size + 1, 0, none⟩) (by simp) (.bool true)
    have g1 := blk_set (blk_far HI.out.r1 (p := ⟨w.heap.size, 0, none⟩) (by simp) (.slice A1 m q1)) 0 (.bool true)
    have hK2 : ((W.setCell ⟨w.heap.size, 0, none⟩ (.slice A1 m q1)).setCell ⟨w.heap.size + 1, 0, none⟩ (.bool true)).heap[D]? = some (.deferred (some [])) := by
      rw [Below.heap_setCell _ _ _ _ (by show D ≠ w.heap.size + 1; omega), Below.heap_setCell _ _ _ _ (by show D ≠ w.heap.size; omega)]; exact HK.out
    have hB2 : Below w.heap.size w ((W.setCell ⟨w.heap.size, 0, none⟩ (.slice A1 m q1)).setCell ⟨w.heap.size + 1, 0, none⟩ (.bool true)) := (HI.out.below.setCell (Nat.le_refl _) _).setCell (by simp) _
    have hR2 := Kd.R_set (Kd.R_set HR.out HI.out.r0 (by simp [Kd.int, Kd.scalar]) 0 (.slice A1 m q1)) (blk_far HI.out.r1 (p := ⟨w.heap.size, 0, none⟩) (by simp) (.slice A1 m q1)) (by simp [Kd.int, Kd.scalar]) 0 (.bool true)
    generalize (W.setCell ⟨w.heap.size, 0, none⟩ (.slice A1 m q1)).setCell ⟨w.heap.size + 1, 0, none⟩ (.bool true) = W2 at *
    have e0 : (W2.putObj D (.deferred none)).heap[w.heap.size]? = some (.cells #[.slice A1 m q1] 35 (0, 0)) := (World.putObj_heap_other (by omega)).trans g0
    have e1 : (W2.putObj D (.deferred none)).heap[w.heap.size + 1]? = some (.cells #[.bool true] 4 (0, 0)) := (World.putObj_heap_other (by omega)).trans g1
    refine leave1 rfl hK2 (results38 _ _ _ _ _ _ _ _ rfl rfl (cell_of_row _ _ 0 _ _ _ e0) (cell_of_row _ _ 0 _ _ _ e1)) ⟨below_put hB2 (by omega) hK2, .inl ⟨HI.out.oks, _, rfl, ?_⟩⟩
    have h := R_noncell hR2 (grownBy_putObj' W2 D (.deferred none)) (fun r e => by cases e; exact ⟨_, hK2, rfl⟩)
    have h2 := Kd.R_mono h (ok' := fun _ => True) (fun _ _ => trivial)
    simpa using h2
  case stop =>
    rintro D c pre W hD0 hpre ⟨rfl, hr0, hr1, hb, hbad⟩ hK
    gi_wp2
    have e0 : (W.putObj D (.deferred none)).heap[w.heap.size]? = some (.cells #[.slice none 0 0] 35 (0, 0)) := (World.putObj_heap_other (by omega)).trans hr0
    have e1 : (W.putObj D (.deferred none)).heap[w.heap.size + 1]? = some (.cells #[.bool false] 4 (0, 0)) := (World.putObj_heap_other (by omega)).trans hr1
    exact leave1 rfl hK (results38 _ _ _ _ _ _ _ _ rfl rfl (cell_of_row _ _ 0 _ _ _ e0) (cell_of_row _ _ 0 _ _ _ e1)) ⟨below_put hb (by omega) hK, .inr ⟨hbad, rfl⟩⟩
end Go.Proofs.YtfiacgkhkonilaaGreatDoor

/- script.digits in the words of the plain definition. -/
namespace Go.Proofs.YtfiacgkhkonilaaGreatDoor
open Go Go.RowKit Go.Proofs.YtfiacgkhkonilaaGreatDoorW.PrintWords

theorem pv_succ (a b : UInt8) (r : B) (k : Nat) : pv (a :: b :: r) (k + 1) = pv r k := by
  unfold pv
  rw [show 2 * (k + 1) = 2 * k + 1 + 1 by omega, show 2 * k + 1 + 1 + 1 = (2 * k + 1) + 1 + 1 by omega]
  simp
theorem pok_succ (a b : UInt8) (r : B) (k : Nat) : pok (a :: b :: r) (k + 1) ↔ pok r k := by
  unfold pok
  rw [show 2 * (k + 1) = 2 * k + 1 + 1 by omega, show 2 * k + 1 + 1 + 1 = (2 * k + 1) + 1 + 1 by omega]
  simp
theorem hexOf_eq : ∀ (m : Nat) (l : B), l.length = 2 * m → (allOk l m → hexOf l = some ((List.range m).map (pv l))) ∧ (¬ allOk l m → hexOf l = none)
  | 0, l, h => by
    have : l = [] := List.length_eq_zero_iff.1 (by omega)
    subst this
    exact ⟨fun _ => rfl, fun h => absurd (fun q hq => by omega) h⟩
  | m + 1, l, h => by
    match l, h with
    | a :: b :: r, h =>
      have hr : r.length = 2 * m := by simp at h; omega
      obtain ⟨h1, h2⟩ := hexOf_eq m r hr
      have e0 : pok (a :: b :: r) 0 ↔ 0 ≤ hexVal a ∧ 0 ≤ hexVal b := by unfold pok; simp
      have e : allOk (a :: b :: r) (m + 1) ↔ (0 ≤ hexVal a ∧ 0 ≤ hexVal b) ∧ allOk r m := by
        constructor
        · intro h
          exact ⟨e0.1 (h 0 (by omega)), fun q hq => (pok_succ a b r q).1 (h (q + 1) (by omega))⟩
        · rintro ⟨h0, h⟩ q hq
          cases q with
          | zero => exact e0.2 h0
          | succ q => exact (pok_succ a b r q).2 (h q (by omega))
      rw [e]
      unfold hexOf
      by_cases hc : 0 ≤ hexVal a ∧ 0 ≤ hexVal b
      · rw [if_neg (by omega)]
        refine ⟨fun h => ?_, fun h => ?_⟩
        · rw [h1 h.2, List.range_succ_eq_map]
          simp only [Option.map_some, List.map_cons, List.map_map]
          congr 2
        · rw [h2 (fun h' => h ⟨hc, h'⟩)]; rfl
      · rw [if_pos (by omega)]
        exact ⟨fun h => absurd h.1 hc, fun _ => rfl⟩
theorem hexOf_odd : ∀ (m : Nat) (l : B), l.length = 2 * m + 1 → hexOf l = none
  | 0, l, h => by
    match l, h with
    | [a], _ => rfl
  | m + 1, l, h => by
    match l, h with
    | a :: b :: r, h =>
      unfold hexOf
      split
      · rfl
      · rw [hexOf_odd m r (by simp at h; omega)]; rfl
theorem digits_yes (s : ByteArray) (l : List Int) (w : World) (hs : s.size ≤ 140737488351232) (h : bytesWord s.data.toList = some l) :
    Calls Tryz.prog 38 #[.string s] w fun e w' => ∃ v, e = .returned (.tuple #[v, .bool true]) ∧ (Kd.int .u8).R 5 w' w.heap.size (fun _ => True) v l ∧ Below w.heap.size w w' := by
  unfold bytesWord at h
  split at h
  · cases h
  · rename_i hne
    have hsz := Lib.size_eq s
    rcases Nat.mod_two_eq_zero_or_one s.size with h0 | h1
    · obtain ⟨m, hm⟩ : ∃ m, s.size = 2 * m := ⟨s.size / 2, by omega⟩
      obtain ⟨k1, k2⟩ := hexOf_eq m s.data.toList (by omega)
      refine callsIn_wide.1 ((digits_full s m w (by rw [Lib.toList_data]; exact hne) hm hs).mono ?_)
      rintro e w' ⟨hb, ⟨hok, v, rfl, hR⟩ | ⟨hno, _⟩⟩
      · rw [k1 hok] at h; cases h
        exact ⟨v, rfl, hR, hb⟩
      · rw [k2 hno] at h; cases h
    · rw [hexOf_odd (s.size / 2) _ (by omega)] at h; cases h
theorem digits_no (s : ByteArray) (w : World) (hs : s.size ≤ 140737488351232) (h : bytesWord s.data.toList = none) :
    Calls Tryz.prog 38 #[.string s] w fun e w' => e = .returned (.tuple #[.slice none 0 0, .bool false]) ∧ Below w.heap.size w w' := by
  unfold bytesWord at h
  have hsz := Lib.size_eq s
  by_cases hne : s.data.toList = []
  · exact callsIn_wide.1 (digits_short s w (.inl (by rw [Lib.toList_data]; exact hne)))
  · rw [if_neg hne] at h
    rcases Nat.mod_two_eq_zero_or_one s.size with h0 | h1
    · obtain ⟨m, hm⟩ : ∃ m, s.size = 2 * m := ⟨s.size / 2, by omega⟩
      obtain ⟨k1, k2⟩ := hexOf_eq m s.data.toList (by omega)
      refine callsIn_wide.1 ((digits_full s m w (by rw [Lib.toList_data]; exact hne) hm hs).mono ?_)
      rintro e w' ⟨hb, ⟨hok, v, rfl, hR⟩ | ⟨hno, he⟩⟩
      · rw [k1 hok] at h; cases h
      · exact ⟨he, hb⟩
    · exact callsIn_wide.1 (digits_short s w (.inr (by omega)))
end Go.Proofs.YtfiacgkhkonilaaGreatDoor

/- What needOf and right answer, in the words of the plain definitions. -/
namespace Go.Proofs.YtfiacgkhkonilaaGreatDoor
open Go Go.RowKit PneedOf Pright

def needR (o : Option Need) : Int × Bool × Int × Int × Bool × Bool := match o with | some n => (n.words, n.bytes, n.least, n.most, n.unpaired, true) | none => (0, false, 0, 0, false, false)
theorem need_f (a : ByteArray) : script_needOf.f 3 a = some (needR (needOf a.data.toList)) := by
  have e : a.toList = a.data.toList := Lib.toList_data a
  simp only [script_needOf.f, script_needOf.j0, script_needOf.j1, e]
  generalize a.data.toList = v
  by_cases h1 : v = vSet; · subst h1; rfl
  by_cases h2 : v = vModel; · subst h2; rfl
  by_cases h3 : v = vRow; · subst h3; rfl
  by_cases h4 : v = vStart; · subst h4; rfl
  by_cases h5 : v = vTracks; · subst h5; rfl
  by_cases h6 : v = vCounts; · subst h6; rfl
  by_cases h7 : v = vTime; · subst h7; rfl
  by_cases h8 : v = vScan; · subst h8; rfl
  by_cases h9 : v = vRaw; · subst h9; rfl
  by_cases h10 : v = vConfig; · subst h10; rfl
  by_cases h11 : v = vTrack; · subst h11; rfl
  by_cases h12 : v = vCount; · subst h12; rfl
  have n : needOf v = none := by simp [needOf, *]
  rw [n]
  simp only [vSet, vModel, vRow, vStart, vTracks, vCounts, vTime, vScan, vRaw, vConfig, vTrack, vCount] at h1 h2 h3 h4 h5 h6 h7 h8 h9 h10 h11 h12
  simp [*, needR]
theorem need_any (v : ByteArray) (w : World) (n : Need) (h : needOf v.data.toList = some n) :
    Calls Tryz.prog 36 #[.string v] w fun e w' => e = .returned (.agg #[.int .i64 n.words, .bool n.bytes, .int .i64 n.least, .int .i64 n.most, .bool n.unpaired, .bool true]) ∧ Below w.heap.size w w' :=
  script_needOf.calls 3 v _ _ _ _ _ _ w (by rw [need_f, h]; rfl)
theorem need_none (v : ByteArray) (w : World) (h : needOf v.data.toList = none) :
    Calls Tryz.prog 36 #[.string v] w fun e w' => e = .returned (.agg #[.int .i64 0, .bool false, .int .i64 0, .int .i64 0, .bool false, .bool false]) ∧ Below w.heap.size w w' :=
  script_needOf.calls 3 v _ _ _ _ _ _ w (by rw [need_f, h]; rfl)
theorem right_any (n : Need) (k : Nat) (w : World) :
    Calls Tryz.prog 39 #[.agg #[.int .i64 n.words, .bool n.bytes, .int .i64 n.least, .int .i64 n.most, .bool n.unpaired, .bool true], .int .i64 k] w fun e w' => e = .returned (.bool (n.right k)) ∧ Below w.heap.size w w' :=
  script_need_right.calls n.words n.bytes n.least n.most n.unpaired true k (n.right k) w (by
    unfold script_need_right.f Need.right
    by_cases h1 : n.least ≤ k
    · rw [if_pos (by omega), decide_eq_true h1]
      by_cases h2 : k ≤ n.most
      · rw [if_pos (by omega), decide_eq_true h2]
        cases n.unpaired
        · have e : (k : Int).tmod 2 = ((k % 2 : Nat) : Int) := by rw [Int.tmod_eq_emod_of_nonneg (by omega)]; omega
          rw [e]
          simp
          rw [Bool.eq_iff_iff]; simp; omega
        · rfl
      · rw [if_neg (by omega), decide_eq_false h2]; rfl
    · rw [if_neg (by omega), decide_eq_false h1]; rfl)
end Go.Proofs.YtfiacgkhkonilaaGreatDoor

/- The walk of script.command: a line's words as a command. -/
namespace Go.Proofs.YtfiacgkhkonilaaGreatDoor
open Go Go.RowKit Go.Shelf Go.Proofs.YtfiacgkhkonilaaGreatDoorW.PrintWords Go.Proofs.YtfiacgkhkonilaaGreatDoorW.PrintLast Go.Proofs.YtfiacgkhkonilaaGreatDoorW.PrintMore

theorem bcell {W w1 : World} (hb : Below W.heap.size W w1) : (∀ b o, b < W.heap.size → w1.cell? ⟨b, o, none⟩ = W.cell? ⟨b, o, none⟩) ∧ (∀ b o, b < W.heap.size → w1.frozen? ⟨b, o, none⟩ = W.frozen? ⟨b, o, none⟩) :=
  ⟨fun b o h => hb.cell (p := ⟨b, o, none⟩) h, fun b o h => hb.frozen (p := ⟨b, o, none⟩) h⟩

theorem cutS' (xs : List ByteArray) (b off c m : Nat) (hm : m ≤ xs.length) (hc : xs.length ≤ c) :
    ∃ A' : Option Addr, (∀ W : World, (Instr.slice 33 (.slice (some ⟨b, off, none⟩) xs.length c) (some (.int .i64 (m : Int))) none none).run Tryz.prog W = .ok (.slice A' (xs.length - m) (c - m)) W) ∧
      (∀ w : World, Kd.string.C w (some ⟨b, off, none⟩) xs.length xs → Kd.string.C w A' (xs.drop m).length (xs.drop m)) ∧ (∀ ad, A' = some ad → ad.block = b) := by
  obtain ⟨A', h1, h2, h3⟩ := cutS xs (some ⟨b, off, none⟩) c m hm hc
  exact ⟨A', h1, h2, fun ad e => by obtain ⟨a0, e0, e1⟩ := h3 ad e; cases e0; exact e1⟩

theorem cells5 {w : World} {g t : Nat} {a b c d e : Value} (h : w.heap[g]? = some (.cells #[a, b, c, d, e] t (0, 0))) :
    (w.cell? ⟨g, 0, none⟩ = some a ∧ w.cell? ⟨g, 1, none⟩ = some b ∧ w.cell? ⟨g, 2, none⟩ = some c ∧ w.cell? ⟨g, 3, none⟩ = some d ∧ w.cell? ⟨g, 4, none⟩ = some e) ∧
    (w.frozen? ⟨g, 0, none⟩ = false ∧ w.frozen? ⟨g, 1, none⟩ = false ∧ w.frozen? ⟨g, 2, none⟩ = false ∧ w.frozen? ⟨g, 3, none⟩ = false ∧ w.frozen? ⟨g, 4, none⟩ = false) :=
  ⟨⟨blk_cell h 0, blk_cell h 1, blk_cell h 2, blk_cell h 3, blk_cell h 4⟩, ⟨blk_frozen h 0, blk_frozen h 1, blk_frozen h 2, blk_frozen h 3, blk_frozen h 4⟩⟩

def set5 (w : World) (g : Nat) (a b c d e : Value) : World := ((((w.setCell ⟨g, 0, none⟩ a).setCell ⟨g, 1, none⟩ b).setCell ⟨g, 2, none⟩ c).setCell ⟨g, 3, none⟩ d).setCell ⟨g, 4, none⟩ e
theorem set5_heap {w : World} {g t : Nat} {a b c d e a0 b0 c0 d0 e0 : Value} (h : w.heap[g]? = some (.cells #[a0, b0, c0, d0, e0] t (0, 0))) : (set5 w g a b c d e).heap[g]? = some (.cells #[a, b, c, d, e] t (0, 0)) :=
  blk_set (blk_set (blk_set (blk_set (blk_set h 0 a) 1 b) 2 c) 3 d) 4 e
theorem set5_grown (w : World) (g : Nat) (a b c d e : Value) : w.grownBy (set5 w g a b c d e) (some g) :=
  World.grownBy.trans (World.grownBy.trans (World.grownBy.trans (World.grownBy.trans (grown_set w g 0 a) (grown_set _ g 1 b)) (grown_set _ g 2 c)) (grown_set _ g 3 d)) (grown_set _ g 4 e)
theorem set5_size (w : World) (g : Nat) (a b c d e : Value) : (set5 w g a b c d e).heap.size = w.heap.size := by simp [set5]
theorem results22 (tmps : Array Value) (W : World) (D : Nat) (l : Int) (v : ByteArray) (A1 A2 A3 : Option Addr) (n1 n2 n3 c1 c2 c3 : Nat) (x : Bool) (h2 : tmps.getD 2 undef = .pointer (some ⟨D, 0, none⟩)) (h3 : tmps.getD 3 undef = .bool x)
    (h : W.heap[D]? = some (.cells #[.int .i64 l, .string v, .slice A1 n1 c1, .slice A2 n2 c2, .slice A3 n3 c3] 37 (0, 0))) :
    (results Tryz.f22 tmps).run Tryz.prog W = .ok (.tuple #[.agg #[.int .i64 l, .string v, .slice A1 n1 c1, .slice A2 n2 c2, .slice A3 n3 c3], .bool x]) W := by
  obtain ⟨⟨d0, d1, d2, d3, d4⟩, _⟩ := cells5 h
  rw [Array.getD_eq_getD_getElem?] at h2 h3
  simp [results, Tryz.results22, go_sem, h2, h3, d0, d1, d2, d3, d4]

set_option maxRecDepth 100000 in
set_option maxHeartbeats 1000000 in
/-- The verb is none. -/
theorem command_verb (b off cap : Nat) (v : ByteArray) (rs : List ByteArray) (w : World) (hC : Kd.string.C w (some ⟨b, off, none⟩) (v :: rs).length (v :: rs)) (hn : needOf v.data.toList = none) :
    Calls Tryz.prog 22 #[.slice (some ⟨b, off, none⟩) (v :: rs).length cap] w fun e w' => e = .returned (.tuple #[.agg #[.int .i64 0, .string ⟨#[]⟩, .slice none 0 0, .slice none 0 0, .slice none 0 0], .bool false]) ∧ Below w.heap.size w w' := by
  obtain ⟨ad, e0, c0⟩ := Kd.at_string hC 0 (by omega) (by simp)
  cases e0
  have hlt : b < w.heap.size := World.block_lt_of_cell? w _ c0
  have c0' : w.cell? ⟨b, off, none⟩ = some (.string v) := c0
  have HN := Lib.hid (fun W => need_none v W hn)
  have hl1 : (0 : Int) < ((v :: rs).length : Int) := by simp
  generalize (v :: rs).length = len at *
  clear c0 hC hn
  go_enter Tryz.func22, Tryz.ntmps22
  go_wp2_with (go_at_call 36; refine (HN.out _).mono ?_; rintro e w1 ⟨rfl, hb1⟩; have hH := (hb1.block w.heap.size (by simp)).trans (World.alloc_heap_new w _); obtain ⟨⟨d0, d1, d2, d3, d4⟩, ⟨e0, e1, e2, e3, e4⟩⟩ := cells5 hH; have hz1 := hb1.size; simp only [World.size_alloc] at hz1 hb1; have hz2 : w.heap.size < w1.heap.size := hz1; have HB1 := Lib.hid hb1; have HH := Lib.hid hH; clear hb1 hH)
  refine bodyPost_ret (results22 _ _ _ _ _ _ _ _ _ _ _ _ _ _ _ rfl rfl ((Below.heap_alloc _ _ _ (by simp; omega)).trans (set5_heap HH.out))) rfl ⟨rfl, ?_⟩
  have hb : Below w.heap.size w w1 := ((Below.refl _ w).alloc (Nat.le_refl _) _).trans (HB1.out.mono (by omega))
  exact (hb.grown (set5_grown w1 w.heap.size _ _ _ _ _) hb.size (fun k e => by cases e; exact Nat.le_refl _)).alloc (by rw [set5_size]; exact hb.size) _

/-- What command leaves, by the plain definition's answer. -/
def CmdPost (w : World) (o : Option Cmd) (e : Ending) (w' : World) : Prop := Below w.heap.size w w' ∧ match o with
  | some c => ∃ A1 n1 c1 A2 n2 c2 A3 n3 c3, e = .returned (.tuple #[.agg #[.int .i64 0, .string (mk c.verb), .slice A1 n1 c1, .slice A2 n2 c2, .slice A3 n3 c3], .bool true]) ∧
      Kd.string.R 9 w' w.heap.size (fun _ => True) (.slice A1 n1 c1) (c.words.map mk) ∧ (Kd.int .i64).R 2 w' w.heap.size (fun _ => True) (.slice A2 n2 c2) c.nums ∧ (Kd.int .u8).R 5 w' w.heap.size (fun _ => True) (.slice A3 n3 c3) c.bytes
  | none => ∃ l vb A1 n1 c1 A2 n2 c2 A3 n3 c3, e = .returned (.tuple #[.agg #[.int .i64 l, .string vb, .slice A1 n1 c1, .slice A2 n2 c2, .slice A3 n3 c3], .bool false])

theorem results22' (tmps : Array Value) (W : World) (D : Nat) (a b c d e : Value) (x : Bool) (h2 : tmps.getD 2 undef = .pointer (some ⟨D, 0, none⟩)) (h3 : tmps.getD 3 undef = .bool x)
    (h : W.heap[D]? = some (.cells #[a, b, c, d, e] 37 (0, 0))) :
    (results Tryz.f22 tmps).run Tryz.prog W = .ok (.tuple #[.agg #[a, b, c, d, e], .bool x]) W := by
  obtain ⟨⟨d0, d1, d2, d3, d4⟩, _⟩ := cells5 h
  rw [Array.getD_eq_getD_getElem?] at h2 h3
  simp [results, Tryz.results22, go_sem, h2, h3, d0, d1, d2, d3, d4]
theorem R_past {α : Type} {d : Kd α} {e base g t : Nat} {W W1 : World} {ok : Nat → Prop} {v : Value} {xs : List α} {cells : Array Value} (h : d.R e W base ok v xs) (hb : W.heap[g]? = some (.cells cells t (0, 0))) (ht : ∀ q, q ∈ e :: d.E → q ≠ t)
    (hg : W.grownBy W1 (some g)) : d.R e W1 base ok v xs := Kd.R_mono (Kd.R_grown (Kd.R_types h hb ht) hg (fun k hk e => hk.2 (by cases e; rfl))) (fun k hk => hk.1)
/-- The end with a command. -/
theorem cmd_yes {w W : World} {c : Cmd} {vW vN vB z0 z1 z2 z3 z4 : Value} (hb : Below w.heap.size w W) (hz : w.heap.size < W.heap.size) (hD : W.heap[w.heap.size]? = some (.cells #[z0, z1, z2, z3, z4] 37 (0, 0)))
    (hW : Kd.string.R 9 W w.heap.size (fun _ => True) vW (c.words.map mk)) (hN : (Kd.int .i64).R 2 W w.heap.size (fun _ => True) vN c.nums) (hB : (Kd.int .u8).R 5 W w.heap.size (fun _ => True) vB c.bytes) :
    CmdPost w (some c) (.returned (.tuple #[.agg #[.int .i64 0, .string (mk c.verb), vW, vN, vB], .bool true])) (set5 W w.heap.size (.int .i64 0) (.string (mk c.verb)) vW vN vB) := by
  obtain ⟨A1, c1, e1⟩ := Kd.R_slice hW
  obtain ⟨A2, c2, e2⟩ := Kd.R_slice hN
  obtain ⟨A3, c3, e3⟩ := Kd.R_slice hB
  have hg := set5_grown W w.heap.size (.int .i64 0) (.string (mk c.verb)) vW vN vB
  refine ⟨hb.grown hg (by omega) (fun k e => by cases e; exact Nat.le_refl _), A1, _, c1, A2, _, c2, A3, _, c3, by rw [e1, e2, e3], ?_, ?_, ?_⟩
  · rw [← e1]; exact R_past hW hD (by simp [Kd.string, Kd.scalar]) hg
  · rw [← e2]; exact R_past hN hD (by simp [Kd.int, Kd.scalar]) hg
  · rw [← e3]; exact R_past hB hD (by simp [Kd.int, Kd.scalar]) hg
/-- The end with none. -/
theorem cmd_no {w W : World} {l : Int} {vb : ByteArray} {A1 A2 A3 : Option Addr} {n1 n2 n3 c1 c2 c3 : Nat} (hb : Below w.heap.size w W) (hz : w.heap.size < W.heap.size) :
    CmdPost w none (.returned (.tuple #[.agg #[.int .i64 l, .string vb, .slice A1 n1 c1, .slice A2 n2 c2, .slice A3 n3 c3], .bool false])) (set5 W w.heap.size (.int .i64 l) (.string vb) (.slice A1 n1 c1) (.slice A2 n2 c2) (.slice A3 n3 c3)) := by
  have hg := set5_grown W w.heap.size (.int .i64 l) (.string vb) (.slice A1 n1 c1) (.slice A2 n2 c2) (.slice A3 n3 c3)
  exact ⟨hb.grown hg (by omega) (fun k e => by cases e; exact Nat.le_refl _), _, _, _, _, _, _, _, _, _, _, _, rfl⟩

theorem readCmd_need (v : ByteArray) (rs : List ByteArray) {n : Need} (hn : needOf v.data.toList = some n) :
    readCmd ((v :: rs).map (·.data.toList)) = if n.words ≤ rs.length ∧ ∀ x ∈ rs.take n.words, isName x.data.toList = true then
      (if n.bytes then (match rs.drop n.words with | [x] => (bytesWord x.data.toList).map fun b => ⟨0, v.data.toList, (rs.take n.words).map (·.data.toList), [], b⟩ | _ => none)
       else if n.right (rs.drop n.words).length then (numsOf ((rs.drop n.words).map (·.data.toList))).map fun l => ⟨0, v.data.toList, (rs.take n.words).map (·.data.toList), l, []⟩ else none) else none := by
  have e2 : ((rs.map (·.data.toList)).take n.words).all isName = true ↔ ∀ x ∈ rs.take n.words, isName x.data.toList = true := by
    rw [← List.map_take, List.all_map, List.all_eq_true]; rfl
  simp only [List.map_cons, readCmd, hn, List.length_map]
  by_cases h1 : n.words ≤ rs.length
  · rw [if_neg (show ¬ rs.length < n.words by omega)]
    by_cases h2 : ∀ x ∈ rs.take n.words, isName x.data.toList = true
    · have h3 := e2.2 h2
      rw [if_neg (show ¬ ((rs.map (·.data.toList)).take n.words).all isName = false by rw [h3]; simp), if_pos (And.intro h1 h2), ← List.map_take, ← List.map_drop, List.length_map]
      cases hb : n.bytes
      · rfl
      · simp only [if_true]
        match rs.drop n.words with
        | [] => rfl
        | [x] => rfl
        | x :: y :: l => rfl
    · have h3 : ((rs.map (·.data.toList)).take n.words).all isName = false := by
        cases hh : ((rs.map (·.data.toList)).take n.words).all isName
        · rfl
        · exact absurd (e2.1 hh) h2
      rw [if_pos h3, if_neg (fun h => h2 h.2)]
  · rw [if_pos (show rs.length < n.words by omega), if_neg (fun h => h1 h.1)]

theorem map_mk (l : List ByteArray) : (l.map (·.data.toList)).map mk = l := by
  rw [List.map_map]; conv => rhs; rw [← List.map_id l]
  exact List.map_congr_left (fun x _ => mk_of x)
theorem numsOf_yes : ∀ (ws : List ByteArray) (ns : List Int), numsOf (ws.map (·.data.toList)) = some ns → ns.length = ws.length ∧ ∀ k : Nat, k < ws.length → numOf (rdOf ByteArray.empty ws k).data.toList = some (rd ns k)
  | [], ns, h => by cases h; exact ⟨rfl, fun k hk => by simp at hk⟩
  | x :: ws, ns, h => by
    simp only [List.map_cons, numsOf] at h
    split at h
    · cases h
    · rename_i y hy
      cases hr : numsOf (ws.map (·.data.toList)) with
      | none => rw [hr] at h; cases h
      | some l =>
        rw [hr] at h; cases h
        obtain ⟨h1, h2⟩ := numsOf_yes ws l hr
        refine ⟨by simp [h1], fun k hk => ?_⟩
        cases k with
        | zero => exact hy
        | succ k => exact h2 k (by simpa using hk)
theorem numsOf_no : ∀ (ws : List ByteArray), numsOf (ws.map (·.data.toList)) = none → ¬ ∀ k : Nat, k < ws.length → (numOf (rdOf ByteArray.empty ws k).data.toList).isSome = true
  | [], h => by cases h
  | x :: ws, h => by
    simp only [List.map_cons, numsOf] at h
    intro hall
    have h0 := hall 0 (by simp)
    have hr : ∀ k : Nat, k < ws.length → (numOf (rdOf ByteArray.empty ws k).data.toList).isSome = true := fun k hk => hall (k + 1) (by simpa using hk)
    split at h
    · rename_i hy
      have h0' : (numOf x.data.toList).isSome = true := h0
      rw [hy] at h0'; cases h0'
    · cases hn : numsOf (ws.map (·.data.toList)) with
      | none => exact numsOf_no ws hn hr
      | some l => rw [hn] at h; cases h
set_option maxRecDepth 100000 in
set_option maxHeartbeats 1000000 in
/-- The verb is one. -/
theorem command_need (b off cap : Nat) (v : ByteArray) (rs : List ByteArray) (n : Need) (w : World) (hC : Kd.string.C w (some ⟨b, off, none⟩) (v :: rs).length (v :: rs)) (hcap : (v :: rs).length ≤ cap) (hn : needOf v.data.toList = some n)
    (hl : rs.length < 4294967295) (hsz : ∀ x ∈ rs, x.size ≤ 140737488351232) (henv : Env w) :
    Calls Tryz.prog 22 #[.slice (some ⟨b, off, none⟩) (v :: rs).length cap] w (CmdPost w (readCmd ((v :: rs).map (·.data.toList)))) := by
  obtain ⟨ad, e0, c0⟩ := Kd.at_string hC 0 (by omega) (by simp)
  cases e0
  have hlt : b < w.heap.size := World.block_lt_of_cell? w _ c0
  have c0' : w.cell? ⟨b, off, none⟩ = some (.string v) := c0
  have HN := Lib.hid (fun W => need_any v W n hn)
  have hl1 : (0 : Int) < ((v :: rs).length : Int) := by simp
  have hl2 : (1 : Int) ≤ ((v :: rs).length : Int) := by simp; omega
  obtain ⟨A', hcut, hcutC, hcutB⟩ := cutS' (v :: rs) b off cap 1 (by simp) hcap
  have HCC := Lib.hid hcutC
  have HCB := Lib.hid hcutB
  have hcut1 : ∀ W : World, (Instr.slice 33 (.slice (some ⟨b, off, none⟩) (v :: rs).length cap) (some (.int .i64 1)) none none).run Tryz.prog W = .ok (.slice A' ((v :: rs).length - 1) (cap - 1)) W := hcut
  have hlr : (v :: rs).length - 1 = rs.length := by simp
  rw [hlr] at hcut1
  have HC := Lib.hid hC
  have hcr : rs.length ≤ cap - 1 := by rw [List.length_cons] at hcap; omega
  have hrd := readCmd_need v rs hn
  have h9 := henv.size
  have HRD := Lib.hid hrd
  have HE := Lib.hid henv
  generalize (v :: rs).length = len at hcut1 hl1 hl2 hcap ⊢
  clear c0 hC hn hcut hcutC hcutB hlr hrd henv
  go_enter Tryz.func22, Tryz.ntmps22
  go_wp2_with fail
  go_at_call 36
  refine (HN.out _).mono ?_
  rintro e w1 ⟨rfl, hb1⟩
  have hH := (hb1.block w.heap.size (by simp)).trans (World.alloc_heap_new w _)
  obtain ⟨⟨d0, d1, d2, d3, d4⟩, ⟨e0, e1, e2, e3, e4⟩⟩ := cells5 hH
  have hz1 := hb1.size
  simp only [World.size_alloc] at hz1 hb1
  have hz2 : w.heap.size < w1.heap.size := hz1
  have HB1 := Lib.hid hb1
  have HH := Lib.hid hH
  have c1 : w1.cell? ⟨b, off, none⟩ = some (.string v) := (hb1.cell (p := ⟨b, off, none⟩) (show b < w.heap.size + 1 by omega)).trans ((World.cell?_alloc_lt w _ ⟨b, off, none⟩ hlt).trans c0')
  have hb3 : b < w1.heap.size := by omega
  clear hb1 hH
  go_wp2_with fail
  generalize hW5 : (w1.alloc (.cells #[.int .i64 n.words, .bool n.bytes, .int .i64 n.least, .int .i64 n.most, .bool n.unpaired, .bool true] 73)).alloc (.cells #[.int .i64 0, .string v, .slice none 0 0, .slice none 0 0, .slice none 0 0] 37) = W5
  have hb5 : Below w1.heap.size w1 W5 := by rw [← hW5]; exact ((Below.refl _ _).alloc (Nat.le_refl _) _).alloc (by simp) _
  have hz5 : W5.heap.size = w1.heap.size + 2 := by rw [← hW5]; simp
  have hn5 : W5.heap[w1.heap.size]? = some (.cells #[.int .i64 n.words, .bool n.bytes, .int .i64 n.least, .int .i64 n.most, .bool n.unpaired, .bool true] 73 (0, 0)) := by
    rw [← hW5]; exact (Below.heap_alloc _ _ _ (by simp)).trans (World.alloc_heap_new w1 _)
  have hc5 : W5.heap[w1.heap.size + 1]? = some (.cells #[.int .i64 0, .string v, .slice none 0 0, .slice none 0 0, .slice none 0 0] 37 (0, 0)) := by
    rw [← hW5]; have := World.alloc_heap_new (w1.alloc (.cells #[.int .i64 n.words, .bool n.bytes, .int .i64 n.least, .int .i64 n.most, .bool n.unpaired, .bool true] 73)) (.cells #[.int .i64 0, .string v, .slice none 0 0, .slice none 0 0, .slice none 0 0] 37)
    rwa [World.size_alloc] at this
  have cn : W5.cell? ⟨w1.heap.size, 0, none⟩ = some (.int .i64 n.words) := blk_cell hn5 0
  have hw5 : Below w.heap.size w W5 := (((Below.refl _ w).alloc (Nat.le_refl _) _).trans (HB1.out.mono (by omega))).trans (hb5.mono (by omega))
  have HC5 := Lib.hid (HCC.out W5 (Kd.C_below HC.out hw5))
  have HN5 := Lib.hid hn5
  have HK5 := Lib.hid hc5
  have HB5 := Lib.hid hb5
  have HW5 := Lib.hid hw5
  clear hn5 hc5 hb5 hW5 hw5
  have hfar : ∀ ad, A' = some ad → 0 < rs.length → ad.block ≠ w1.heap.size + 1 := fun ad e _ => by have := HCB.out ad e; omega
  have HFR := Lib.hid hfar
  have HCR := Lib.hid hcr
  clear hfar hcr
  by_cases hnm : n.words ≤ rs.length ∧ ∀ x ∈ rs.take n.words, isName x.data.toList = true
  · have hyes := names_yes (w1.heap.size + 1) A' (cap - 1) n.words 0 v (.slice none 0 0) (.slice none 0 0) rs W5.drew HK5.out (Kd.C_below HC5.out (Below.refl _ _).drew) HCR.out HFR.out hnm.1 (by omega) hsz hnm.2
    obtain ⟨m, hm⟩ : ∃ m, rs.length - n.words = m := ⟨_, rfl⟩
    rw [hm] at hyes
    have HNY := Lib.hid hyes
    have HNM := Lib.hid hnm
    clear hyes hnm
    go_region_held3 (fun w' => w'.cell? ⟨w1.heap.size, 0, none⟩ = some (.int .i64 n.words))
      (first | go_keep | exact ck)
      ((go_at_call 37; refine HNY.out.mono ?_; rintro e W6 ⟨A2, vW, rfl, hC6, hf6, hc6, hR6, hg6⟩; have ck : W6.cell? ⟨w1.heap.size, 0, none⟩ = some (.int .i64 n.words) := blk_cell (blk_grown (w := W5.drew) HN5.out hg6 (by simp)) 0))
    rename_i hHeld
    obtain ⟨A3, c3, rfl⟩ := Kd.R_slice hR6
    have hD6 : W6.heap[w.heap.size]? = some (.cells #[.int .i64 0, .string ⟨#[]⟩, .slice none 0 0, .slice none 0 0, .slice none 0 0] 37 (0, 0)) :=
      blk_grown (w := W5.drew) ((HB5.out.block _ hz2).trans HH.out) hg6 (by simp; omega)
    have hN6 := blk_grown (w := W5.drew) HN5.out hg6 (by simp)
    obtain ⟨⟨d0, d1, d2, d3, d4⟩, ⟨e0, e1, e2, e3, e4⟩⟩ := cells5 hD6
    have HD6 := Lib.hid hD6
    have HG6 := Lib.hid hg6
    have HC6 := Lib.hid hC6
    have HF6 := Lib.hid hf6
    have HK6 := Lib.hid hc6
    have HR6 := Lib.hid hR6
    have hs6 := hg6.size
    have hs6' : w1.heap.size + 1 < W6.heap.size := by have : W5.heap.size ≤ W6.heap.size := hs6; omega
    have hb6 : Below w.heap.size w W6 := HW5.out.drew.grown hg6 HW5.out.drew.size (fun k e => by cases e; omega)
    have HB6 := Lib.hid hb6
    have n1 : W6.cell? ⟨w1.heap.size, 1, none⟩ = some (.bool n.bytes) := blk_cell hN6 1
    have HN6 := Lib.hid hN6
    clear hg6 hs6 hD6 hHeld hC6 hf6 hc6 hR6 hN6 hb6
    have hml : (rs.drop n.words).length = m := by rw [List.length_drop, hm]
    have HML := Lib.hid hml
    have hmb : m < 4294967295 := by omega
    clear hml hm
    cases hby : n.bytes
    · have n1 : W6.cell? ⟨w1.heap.size, 1, none⟩ = some (.bool false) := by rw [← hby]; exact n1
      have n2 : W6.cell? ⟨w1.heap.size, 2, none⟩ = some (.int .i64 n.least) := blk_cell HN6.out 2
      have n3 : W6.cell? ⟨w1.heap.size, 3, none⟩ = some (.int .i64 n.most) := blk_cell HN6.out 3
      have n4 : W6.cell? ⟨w1.heap.size, 4, none⟩ = some (.bool n.unpaired) := blk_cell HN6.out 4
      have n5 : W6.cell? ⟨w1.heap.size, 5, none⟩ = some (.bool true) := blk_cell HN6.out 5
      have hr := right_any n m W6
      rw [hby] at hr
      rcases hrt : n.right m with _ | _
      · rw [hrt] at hr
        have HRI := Lib.hid hr
        have HRT := Lib.hid hrt
        clear hr hrt
        go_wp2_with (go_at_call 39; refine HRI.out.mono ?_; rintro e W7 ⟨rfl, hb7⟩; have hK7 := (hb7.block (w1.heap.size + 1) hs6').trans HK6.out; have hD7 := (hb7.block w.heap.size (by omega)).trans HD6.out; obtain ⟨⟨k0, k1, k2, k3, k4⟩, _⟩ := cells5 hK7; obtain ⟨⟨d0, d1, d2, d3, d4⟩, ⟨e0, e1, e2, e3, e4⟩⟩ := cells5 hD7; have HB7 := Lib.hid hb7; have HD7 := Lib.hid hD7; clear hb7 hK7 hD7)
        refine bodyPost_ret (results22' _ _ w.heap.size _ _ _ _ _ _ rfl rfl (set5_heap HD7.out)) rfl ?_
        rw [HRD.out, if_pos HNM.out, if_neg (by rw [hby]; simp), HML.out, if_neg (by rw [HRT.out]; simp)]
        exact cmd_no (HB6.out.trans (HB7.out.mono (by omega))) (by have := HB7.out.size; omega)
      · rw [hrt] at hr
        have HRI := Lib.hid hr
        have HRT := Lib.hid hrt
        clear hr hrt
        rcases hns : numsOf ((rs.drop n.words).map (·.data.toList)) with _ | ns
        · have q2 := numsOf_no _ hns
          have HQ2 := Lib.hid q2
          have HNS := Lib.hid hns
          clear q2 hns
          go_wp2_with (first
            | (go_at_call 39; refine HRI.out.mono ?_; rintro e W7 ⟨rfl, hb7⟩; have hK7 := (hb7.block (w1.heap.size + 1) hs6').trans HK6.out; have hD7 := (hb7.block w.heap.size (by omega)).trans HD6.out; have hC7 := Kd.C_below HC6.out hb7; have hnum := numbers_no (w1.heap.size + 1) A2 (cap - 1 - n.words) 0 v _ (.slice none 0 0) (rs.drop n.words) W7 (HE.out.below (HB6.out.trans (hb7.mono (by omega)))) (by omega) hK7 hC7 HF6.out (by rw [HML.out]; omega) (fun x hx => hsz x (List.mem_of_mem_drop hx)) HQ2.out; rw [HML.out] at hnum; have HNU := Lib.hid hnum; have HB7 := Lib.hid hb7; have HD7 := Lib.hid hD7; clear hb7 hK7 hD7 hC7 hnum)
            | (go_at_call 40; refine HNU.out.mono ?_; rintro e W8 ⟨vN, rfl, hK8, ⟨ns, hR8⟩, hg8⟩; obtain ⟨A4, c4, rfl⟩ := Kd.R_slice hR8; have hD8 := blk_grown HD7.out hg8 (by simp; omega); obtain ⟨⟨k0, k1, k2, k3, k4⟩, _⟩ := cells5 hK8; obtain ⟨⟨d0, d1, d2, d3, d4⟩, ⟨e0, e1, e2, e3, e4⟩⟩ := cells5 hD8; have HG8 := Lib.hid hg8; have HD8 := Lib.hid hD8; clear hg8 hD8 hK8 hR8))
          refine bodyPost_ret (results22' _ _ w.heap.size _ _ _ _ _ _ rfl rfl (set5_heap HD8.out)) rfl ?_
          rw [HRD.out, if_pos HNM.out, if_neg (by rw [hby]; simp), HML.out, if_pos HRT.out, HNS.out]
          have hb7 := HB6.out.trans (HB7.out.mono (by omega))
          exact cmd_no (hb7.grown HG8.out hb7.size (fun k e => by cases e; omega)) (by have := HB7.out.size; have := HG8.out.size; omega)
        · obtain ⟨q1, q2⟩ := numsOf_yes _ _ hns
          have HQ1 := Lib.hid q1
          have HQ2 := Lib.hid q2
          have HNS := Lib.hid hns
          clear q1 q2 hns
          go_wp2_with (first
            | (go_at_call 39; refine HRI.out.mono ?_; rintro e W7 ⟨rfl, hb7⟩; have hK7 := (hb7.block (w1.heap.size + 1) hs6').trans HK6.out; have hD7 := (hb7.block w.heap.size (by omega)).trans HD6.out; have hC7 := Kd.C_below HC6.out hb7; have hnum := numbers_yes (w1.heap.size + 1) A2 (cap - 1 - n.words) 0 v _ (.slice none 0 0) (rs.drop n.words) ns W7 (HE.out.below (HB6.out.trans (hb7.mono (by omega)))) (by omega) hK7 hC7 HF6.out (by rw [HML.out]; omega) (fun x hx => hsz x (List.mem_of_mem_drop hx)) HQ1.out HQ2.out; rw [HML.out] at hnum; have HNU := Lib.hid hnum; have HB7 := Lib.hid hb7; have HD7 := Lib.hid hD7; have HK7 := Lib.hid hK7; clear hb7 hK7 hD7 hC7 hnum)
            | (go_at_call 40; refine HNU.out.mono ?_; rintro e W8 ⟨vN, rfl, hK8, hR8, hg8⟩; obtain ⟨A4, c4, rfl⟩ := Kd.R_slice hR8; have hD8 := blk_grown HD7.out hg8 (by simp; omega); obtain ⟨⟨k0, k1, k2, k3, k4⟩, _⟩ := cells5 hK8; obtain ⟨⟨d0, d1, d2, d3, d4⟩, ⟨e0, e1, e2, e3, e4⟩⟩ := cells5 hD8; have HG8 := Lib.hid hg8; have HD8 := Lib.hid hD8; have HR8 := Lib.hid hR8; clear hg8 hD8 hK8 hR8))
          refine bodyPost_ret (results22' _ _ w.heap.size _ _ _ _ _ _ rfl rfl (set5_heap HD8.out)) rfl ?_
          rw [HRD.out, if_pos HNM.out, if_neg (by rw [hby]; simp), HML.out, if_pos HRT.out, HNS.out]
          have hb7 := HB6.out.trans (HB7.out.mono (by omega))
          have hz7 := HB7.out.size
          have hz8 := HG8.out.size
          have hz5' : w.heap.size ≤ W5.drew.heap.size := by show w.heap.size ≤ W5.heap.size; omega
          have h := cmd_yes (w := w) (W := W8) (c := ⟨0, v.data.toList, (rs.take n.words).map (·.data.toList), ns, []⟩) (hb7.grown HG8.out hb7.size (fun k e => by cases e; omega)) (by omega) HD8.out
            (by rw [map_mk]; exact R_past (Kd.R_below (Kd.R_lower HR6.out hz5') HB7.out) HK7.out (by simp [Kd.string, Kd.scalar]) HG8.out) (Kd.R_lower HR8.out (by omega)) (Kd.R_nil _ _ _ _ _)
          rw [mk_of] at h
          simp only [List.length_take] at h
          exact h
    · have n1 : W6.cell? ⟨w1.heap.size, 1, none⟩ = some (.bool true) := by rw [← hby]; exact n1
      by_cases h1 : m = 1
      · subst h1
        obtain ⟨ad, rfl, hcell⟩ := Kd.at_string HC6.out 0 (by omega) (by rw [HML.out]; omega)
        have hcell1 : W6.cell? ad = some (.string (rdOf ByteArray.empty (rs.drop n.words) 0)) := by cases ad; exact hcell
        have hone : rs.drop n.words = [rdOf ByteArray.empty (rs.drop n.words) 0] := by
          obtain ⟨y, hy⟩ := List.length_eq_one_iff.1 HML.out
          rw [hy]; rfl
        have hxs : (rdOf ByteArray.empty (rs.drop n.words) 0).size ≤ 140737488351232 := hsz _ (List.mem_of_mem_drop (by rw [hone]; simp [rdOf]))
        generalize rdOf ByteArray.empty (rs.drop n.words) 0 = x at *
        have HON := Lib.hid hone
        have HXS := Lib.hid hxs
        clear hone hcell hxs
        obtain ⟨⟨k0, k1, k2, k3, k4⟩, ⟨f0, f1, f2, f3, f4⟩⟩ := cells5 HK6.out
        rcases hbw : bytesWord x.data.toList with _ | l
        · have HBW := Lib.hid hbw
          have HDG := Lib.hid (digits_no x W6 HXS.out hbw)
          clear hbw
          go_wp2_with (go_at_call 38; refine HDG.out.mono ?_; rintro e W7 ⟨rfl, hb7⟩; have hK7 := (hb7.block (w1.heap.size + 1) hs6').trans HK6.out; have hD7 := (hb7.block w.heap.size (by omega)).trans HD6.out; obtain ⟨⟨k0, k1, k2, k3, k4⟩, ⟨f0, f1, f2, f3, f4⟩⟩ := cells5 hK7; obtain ⟨⟨d0, d1, d2, d3, d4⟩, ⟨e0, e1, e2, e3, e4⟩⟩ := cells5 hD7; have HB7 := Lib.hid hb7; have HD7 := Lib.hid hD7; have HK7 := Lib.hid hK7; clear hb7 hK7 hD7)
          have hb7 := HB6.out.trans (HB7.out.mono (by omega))
          have hz7 := HB7.out.size
          have hD9 := blk_far HD7.out (g := w.heap.size) (p := ⟨w1.heap.size + 1, 4, none⟩) (by simp; omega) (.slice none 0 0)
          refine bodyPost_ret (results22' _ _ w.heap.size _ _ _ _ _ _ rfl rfl (set5_heap hD9)) rfl ?_
          rw [HRD.out, if_pos HNM.out, if_pos hby, HON.out]
          simp only [HBW.out, Option.map_none]
          exact cmd_no (hb7.setCell (by simp; omega) _) (by simp; omega)
        · have HBW := Lib.hid hbw
          have HDG := Lib.hid (digits_yes x l W6 HXS.out hbw)
          clear hbw
          go_wp2_with (go_at_call 38; refine HDG.out.mono ?_; rintro e W7 ⟨vB, rfl, hR7, hb7⟩; obtain ⟨A4, c4, rfl⟩ := Kd.R_slice hR7; have hK7 := (hb7.block (w1.heap.size + 1) hs6').trans HK6.out; have hD7 := (hb7.block w.heap.size (by omega)).trans HD6.out; obtain ⟨⟨k0, k1, k2, k3, k4⟩, ⟨f0, f1, f2, f3, f4⟩⟩ := cells5 hK7; obtain ⟨⟨d0, d1, d2, d3, d4⟩, ⟨e0, e1, e2, e3, e4⟩⟩ := cells5 hD7; have HB7 := Lib.hid hb7; have HD7 := Lib.hid hD7; have HK7 := Lib.hid hK7; have HR7 := Lib.hid hR7; clear hb7 hK7 hD7 hR7)
          have hb7 := HB6.out.trans (HB7.out.mono (by omega))
          have hz7 := HB7.out.size
          have hD9 := blk_far HD7.out (g := w.heap.size) (p := ⟨w1.heap.size + 1, 4, none⟩) (by simp; omega) (.slice A4 l.length c4)
          refine bodyPost_ret (results22' _ _ w.heap.size _ _ _ _ _ _ rfl rfl (set5_heap hD9)) rfl ?_
          rw [HRD.out, if_pos HNM.out, if_pos hby, HON.out]
          simp only [HBW.out, Option.map_some]
          have hz5' : w.heap.size ≤ W5.drew.heap.size := by show w.heap.size ≤ W5.heap.size; omega
          have hg9 := grown_set W7 (w1.heap.size + 1) 4 (.slice A4 l.length c4)
          have h := cmd_yes (w := w) (W := W7.setCell ⟨w1.heap.size + 1, 4, none⟩ (.slice A4 l.length c4)) (c := ⟨0, v.data.toList, (rs.take n.words).map (·.data.toList), [], l⟩) (hb7.setCell (by simp; omega) _) (by simp; omega) hD9
            (by rw [map_mk]; exact R_past (Kd.R_below (Kd.R_lower HR6.out hz5') HB7.out) HK7.out (by simp [Kd.string, Kd.scalar]) hg9) (Kd.R_nil _ _ _ _ _) (R_past (Kd.R_lower HR7.out (by omega)) HK7.out (by simp [Kd.int, Kd.scalar]) hg9)
          rw [mk_of] at h
          simp only [List.length_take] at h
          exact h
      · have h1' : ((m : Int) != 1) = true := by rw [bne_iff_ne]; omega
        go_wp2
        refine bodyPost_ret (results22' _ _ w.heap.size _ _ _ _ _ _ rfl rfl (set5_heap HD6.out)) rfl ?_
        rw [HRD.out, if_pos HNM.out, if_pos hby]
        split
        · rename_i y hy
          have := HML.out; rw [hy] at this; simp at this; omega
        · exact cmd_no HB6.out (by omega)
  · have hno : ∀ W, Below W5.heap.size W5 W → Calls Tryz.prog 37 #[.pointer (some ⟨w1.heap.size + 1, 0, none⟩), .slice A' rs.length (cap - 1), .int .i64 n.words] W fun e w' => e = .returned (.tuple #[.slice none 0 0, .bool false]) ∧ W.grownBy w' (some (w1.heap.size + 1)) := by
      intro W hW
      by_cases h1 : n.words ≤ rs.length
      · exact names_no _ _ _ _ 0 v (.slice none 0 0) (.slice none 0 0) rs W ((hW.block _ (by omega)).trans HK5.out) (Kd.C_below HC5.out hW) HCR.out HFR.out h1 (by omega) hsz (fun h => hnm ⟨h1, h⟩)
      · exact (names_short _ _ _ _ _ W (by omega)).mono fun e w' ⟨h, hw⟩ => ⟨h, by rw [hw]; exact grown_refl _ _⟩
    have HNO := Lib.hid (hno W5.drew ((Below.refl _ _).drew))
    have HNM := Lib.hid hnm
    clear hno hnm
    go_region_held3 (fun w' => w'.cell? ⟨w1.heap.size, 0, none⟩ = some (.int .i64 n.words))
      (first | go_keep | exact ck)
      ((go_at_call 37; refine HNO.out.mono ?_; rintro e W6 ⟨rfl, hg6⟩; have ck : W6.cell? ⟨w1.heap.size, 0, none⟩ = some (.int .i64 n.words) := blk_cell (blk_grown (w := W5.drew) HN5.out hg6 (by simp)) 0))
    rename_i hHeld
    have hD6 : W6.heap[w.heap.size]? = some (.cells #[.int .i64 0, .string ⟨#[]⟩, .slice none 0 0, .slice none 0 0, .slice none 0 0] 37 (0, 0)) :=
      blk_grown (w := W5.drew) ((HB5.out.block _ hz2).trans HH.out) hg6 (by simp; omega)
    obtain ⟨⟨d0, d1, d2, d3, d4⟩, ⟨e0, e1, e2, e3, e4⟩⟩ := cells5 hD6
    have HD6 := Lib.hid hD6
    have HG6 := Lib.hid hg6
    have hs6 := hg6.size
    have hs6' : w.heap.size < W6.heap.size := by have : W5.heap.size ≤ W6.heap.size := hs6; omega
    clear hg6 hs6 hD6 hHeld
    go_wp2
    refine bodyPost_ret (results22 _ _ w.heap.size 0 ⟨#[]⟩ none none none 0 0 0 0 0 0 false rfl rfl (set5_heap HD6.out)) rfl ?_
    rw [HRD.out, if_neg HNM.out]
    refine ⟨?_, 0, ⟨#[]⟩, none, 0, 0, none, 0, 0, none, 0, 0, rfl⟩
    exact (HW5.out.drew.grown HG6.out HW5.out.drew.size (fun k e => by cases e; omega)).grown (set5_grown W6 w.heap.size _ _ _ _ _) (by omega) (fun k e => by cases e; exact Nat.le_refl _)
/-- script.command. -/
theorem command_any (b off cap : Nat) (v : ByteArray) (rs : List ByteArray) (w : World) (hC : Kd.string.C w (some ⟨b, off, none⟩) (v :: rs).length (v :: rs)) (hcap : (v :: rs).length ≤ cap)
    (hl : rs.length < 4294967295) (hsz : ∀ x ∈ rs, x.size ≤ 140737488351232) (henv : Env w) :
    Calls Tryz.prog 22 #[.slice (some ⟨b, off, none⟩) (v :: rs).length cap] w (CmdPost w (readCmd ((v :: rs).map (·.data.toList)))) := by
  rcases hn : needOf v.data.toList with _ | n
  · have e : readCmd ((v :: rs).map (·.data.toList)) = none := by simp only [List.map_cons, readCmd, hn]
    rw [e]
    exact (command_verb b off cap v rs w hC hn).mono fun e w' ⟨h, hb⟩ => ⟨hb, _, _, _, _, _, _, _, _, _, _, _, h⟩
  · exact command_need b off cap v rs n w hC hcap hn hl hsz henv
end Go.Proofs.YtfiacgkhkonilaaGreatDoor
