/- Part 5 of a proof: Parse, Read, EqLaws -/
import Derived.Test.YtfiacgkhkonilaaGreatDoorBackPart4
/- The walk of script.Parse: the commands of a text. -/
namespace Go.Proofs.YtfiacgkhkonilaaGreatDoor
open Go Go.RowKit Go.Shelf Go.Proofs.YtfiacgkhkonilaaGreatDoorW.PrintWords Go.Proofs.YtfiacgkhkonilaaGreatDoorW.PrintLast Go.Proofs.YtfiacgkhkonilaaGreatDoorW.PrintMore
attribute [local go_sem] Oper.semAt_some
attribute [local simp] wide_fn
attribute [local go_sem] wide_fn

/-! ### sizes -/
theorem fieldsGo_size : ∀ (l cur : B), (fieldsGo cur l).length ≤ l.length + 1 ∧ ∀ w ∈ fieldsGo cur l, w.length ≤ cur.length + l.length
  | [], cur => by
    unfold fieldsGo
    split <;> simp
  | c :: r, cur => by
    unfold fieldsGo
    split
    · split
      · obtain ⟨h1, h2⟩ := fieldsGo_size r []
        refine ⟨by simp; omega, fun w hw => ?_⟩
        have := h2 w hw; simp at this ⊢; omega
      · obtain ⟨h1, h2⟩ := fieldsGo_size r []
        refine ⟨by simp; omega, fun w hw => ?_⟩
        rcases List.mem_cons.1 hw with rfl | hw
        · simp
        · have := h2 w hw; simp at this ⊢; omega
    · obtain ⟨h1, h2⟩ := fieldsGo_size r (cur ++ [c])
      refine ⟨by simp; omega, fun w hw => ?_⟩
      have := h2 w hw; simp at this ⊢; omega
theorem noteCut_size (l : B) : (noteCut l).length ≤ l.length := (List.takeWhile_sublist _).length_le
theorem lines_size : ∀ (l : B), (lines l).length ≤ l.length + 1 ∧ ∀ x ∈ lines l, x.length ≤ l.length
  | [] => by simp [lines]
  | c :: r => by
    obtain ⟨h1, h2⟩ := lines_size r
    unfold lines
    split
    · refine ⟨by simp; omega, fun x hx => ?_⟩
      rcases List.mem_cons.1 hx with rfl | hx
      · simp
      · have := h2 x hx; simp; omega
    · split
      · simp
      · rename_i l ls he
        rw [he] at h1 h2
        refine ⟨by simp at h1 ⊢; omega, fun x hx => ?_⟩
        rcases List.mem_cons.1 hx with rfl | hx
        · have := h2 l (by simp); simp; omega
        · have := h2 x (by simp [hx]); simp; omega

/-! ### a command in memory -/
def kdCmd : Kd Cmd := Kd.iso (Kd.pair (Kd.int .i64) (Kd.pair Kd.string (Kd.pair (Kd.slice 9 Kd.string) (Kd.pair (Kd.slice 2 (Kd.int .i64)) (Kd.slice 5 (Kd.int .u8))))))
  (fun c => (c.line, mk c.verb, c.words.map mk, c.nums, c.bytes))
theorem info37 : (Tryz.prog.info? 37).map (fun i => (i.zero, i.size, i.bytes)) = some (some (.agg #[.int .i64 0, .string ⟨#[]⟩, .slice none 0 0, .slice none 0 0, .slice none 0 0]), 5, 96) := by kernel_rfl
theorem kdCmd_M {w : World} {base : Nat} {ok : Nat → Prop} {c : Cmd} {vW vN vB : Value} (hW : Kd.string.R 9 w base ok vW (c.words.map mk)) (hN : (Kd.int .i64).R 2 w base ok vN c.nums) (hB : (Kd.int .u8).R 5 w base ok vB c.bytes) :
    kdCmd.M w base ok c [.int .i64 c.line, .string (mk c.verb), vW, vN, vB] :=
  ⟨[.int .i64 c.line], [.string (mk c.verb), vW, vN, vB], rfl, rfl, [.string (mk c.verb)], [vW, vN, vB], rfl, rfl, [vW], [vN, vB], rfl, ⟨vW, rfl, hW⟩, [vN], [vB], rfl, ⟨vN, rfl, hN⟩, ⟨vB, rfl, hB⟩⟩
theorem kdCmd_E : ∀ q, q ∈ 37 :: kdCmd.E → q ≠ 3 ∧ q ≠ 23 ∧ q ≠ 25 := by
  intro q hq
  simp [kdCmd, Kd.iso, Kd.pair, Kd.slice, Kd.int, Kd.string, Kd.scalar] at hq
  omega

/-- What holds between two rounds of Parse: k lines are read. -/
structure PI (w : World) (k : Nat) (cs : List Cmd) (W : World) : Prop where
  r0 : W.heap[w.heap.size]? = some (.cells #[.slice none 0 0] 23 (0, 0))
  r1 : W.heap[w.heap.size + 1]? = some (.cells #[.int .i64 0] 3 (0, 0))
  r2 : W.heap[w.heap.size + 2]? = some (.cells #[.nilIface] 25 (0, 0))
  out : ∃ v, W.heap[w.heap.size + 3]? = some (.cells #[v] 23 (0, 0)) ∧ kdCmd.R 37 W w.heap.size (fun k => w.heap.size + 8 ≤ k) v cs
  lin : W.heap[w.heap.size + 4]? = some (.cells #[.int .i64 k] 3 (0, 0))
  below : Below w.heap.size w W
  size : w.heap.size + 8 ≤ W.heap.size

theorem PI.noncell {w : World} {k : Nat} {cs : List Cmd} {A W : World} {row : Option Nat} (h : PI w k cs A) (hg : A.grownBy W row) (hr : ∀ r, row = some r → w.heap.size + 8 ≤ r ∧ ∃ o : Obj, A.heap[r]? = some o ∧ o.isCells = false) : PI w k cs W where
  r0 := heap_noncell h.r0 hg (fun r e => (hr r e).2)
  r1 := heap_noncell h.r1 hg (fun r e => (hr r e).2)
  r2 := heap_noncell h.r2 hg (fun r e => (hr r e).2)
  out := by obtain ⟨v, h1, h2⟩ := h.out; exact ⟨v, heap_noncell h1 hg (fun r e => (hr r e).2), R_noncell h2 hg (fun r e => (hr r e).2)⟩
  lin := heap_noncell h.lin hg (fun r e => (hr r e).2)
  below := h.below.grown hg h.below.size (fun r e => by have := (hr r e).1; omega)
  size := Nat.le_trans h.size hg.size
theorem PI.own {w : World} {k : Nat} {cs : List Cmd} {A W : World} (h : PI w k cs A) (hg : A.grownBy W (some (w.heap.size + 5))) : PI w k cs W where
  r0 := blk_grown h.r0 hg (fun e => by injection e; omega)
  r1 := blk_grown h.r1 hg (fun e => by injection e; omega)
  r2 := blk_grown h.r2 hg (fun e => by injection e; omega)
  out := by obtain ⟨v, h1, h2⟩ := h.out; exact ⟨v, blk_grown h1 hg (fun e => by injection e; omega), Kd.R_grown h2 hg (fun k hk e => by injection e; omega)⟩
  lin := blk_grown h.lin hg (fun e => by injection e; omega)
  below := h.below.grown hg h.below.size (fun r e => by injection e; omega)
  size := Nat.le_trans h.size hg.size

theorem keeps_below {W W1 : World} (h : Below W.heap.size W W1) : KeepsOthers W W1 := ⟨h.size, fun k _ hk _ => (h.block k (Array.getElem?_eq_some_iff.1 hk).1).trans hk⟩
theorem PI.below1 {w : World} {k : Nat} {cs : List Cmd} {A W : World} (h : PI w k cs A) (hb : Below A.heap.size A W) : PI w k cs W := h.noncell (grown_of_below hb none) (fun r e => by cases e)
theorem PI.line {w : World} {k : Nat} {cs : List Cmd} {A : World} (h : PI w k cs A) : PI w (k + 1) cs (A.setCell ⟨w.heap.size + 4, 0, none⟩ (.int .i64 ((k : Int) + 1))) where
  r0 := blk_far h.r0 (by simp) _
  r1 := blk_far h.r1 (by simp) _
  r2 := blk_far h.r2 (by simp) _
  out := by obtain ⟨v, h1, h2⟩ := h.out; exact ⟨v, blk_far h1 (by simp) _, Kd.R_set h2 h.lin (fun q hq => (kdCmd_E q hq).1) 0 _⟩
  lin := blk_set h.lin 0 _
  below := h.below.setCell (by simp) _
  size := by simpa using h.size

/-- What Parse leaves. -/
def ParsePost (w : World) (s : ByteArray) (e : Ending) (w' : World) : Prop := Below w.heap.size w w' ∧
  if 65536 < s.size then e = .returned (.tuple #[.slice none 0 0, .int .i64 0, .iface 47 (.int .i64 2)]) else
  match parseLines 0 (lines s.data.toList) [] with
  | .ok cs => ∃ A c, e = .returned (.tuple #[.slice A cs.length c, .int .i64 0, .nilIface]) ∧ cs.length ≤ c ∧ kdCmd.C w' A cs.length cs ∧ (0 < cs.length → ∃ g, A = some ⟨g, 0, none⟩)
  | .error k => e = .returned (.tuple #[.slice none 0 0, .int .i64 k, .iface 47 (.int .i64 337)])

theorem results7 (tmps : Array Value) (W : World) (a b c : Nat) (x y z : Value) (h2 : tmps.getD 2 undef = .pointer (some ⟨a, 0, none⟩)) (h3 : tmps.getD 3 undef = .pointer (some ⟨b, 0, none⟩)) (h4 : tmps.getD 4 undef = .pointer (some ⟨c, 0, none⟩))
    (c0 : W.cell? ⟨a, 0, none⟩ = some x) (c1 : W.cell? ⟨b, 0, none⟩ = some y) (c2 : W.cell? ⟨c, 0, none⟩ = some z) : (results Tryz.f7 tmps).run Tryz.prog W = .ok (.tuple #[x, y, z]) W := by
  rw [Array.getD_eq_getD_getElem?] at h2 h3 h4
  simp [results, Tryz.results7, go_sem, h2, h3, h4, c0, c1, c2]

set_option maxRecDepth 100000 in
set_option maxHeartbeats 1000000 in
theorem parse_long (s : ByteArray) (w : World) (h : 65536 < s.size) : CallsIn Fence.wide 5 Tryz.prog 7 #[.string s] w (ParsePost w s) := by
  refine callsIn_of_wp_marks Tryz.func7 rfl trivial ?_ rfl
  simp only [Tryz.ntmps7, List.size_toArray, List.length_cons, List.length_nil, Nat.reduceAdd, Nat.reduceSub, Array.replicate_succ, Array.replicate_zero, List.push_toArray, List.append_toArray, List.nil_append, List.cons_append]
  have h1 : (65536 : Int) < (s.size : Int) := by omega
  have H := Lib.hid h
  clear h
  gi_wp2
  have g0 : (((w.alloc (.cells #[.slice none 0 0] 23)).alloc (.cells #[.int .i64 0] 3)).alloc (.cells #[.iface 47 (.int .i64 2)] 25)).heap[w.heap.size]? = some (.cells #[.slice none 0 0] 23 (0, 0)) :=
    ((Below.heap_alloc _ _ _ (by simp <;> omega)).trans (Below.heap_alloc _ _ _ (by simp))).trans (World.alloc_heap_new w _)
  have g1 : (((w.alloc (.cells #[.slice none 0 0] 23)).alloc (.cells #[.int .i64 0] 3)).alloc (.cells #[.iface 47 (.int .i64 2)] 25)).heap[w.heap.size + 1]? = some (.cells #[.int .i64 0] 3 (0, 0)) := by
    refine (Below.heap_alloc _ _ _ (by simp)).trans ?_
    have := World.alloc_heap_new (w.alloc (.cells #[.slice none 0 0] 23)) (.cells #[.int .i64 0] 3)
    rwa [World.size_alloc] at this
  have g2 : (((w.alloc (.cells #[.slice none 0 0] 23)).alloc (.cells #[.int .i64 0] 3)).alloc (.cells #[.iface 47 (.int .i64 2)] 25)).heap[w.heap.size + 1 + 1]? = some (.cells #[.iface 47 (.int .i64 2)] 25 (0, 0)) := by
    have := World.alloc_heap_new ((w.alloc (.cells #[.slice none 0 0] 23)).alloc (.cells #[.int .i64 0] 3)) (.cells #[.iface 47 (.int .i64 2)] 25)
    rwa [World.size_alloc, World.size_alloc] at this
  refine leave0 rfl (results7 _ _ _ _ _ _ _ _ rfl rfl rfl (cell_of_row _ _ 0 _ _ _ g0) (cell_of_row _ _ 0 _ _ _ g1) (cell_of_row _ _ 0 _ _ _ g2)) ⟨(((Below.refl _ w).alloc (Nat.le_refl _) _).alloc (by simp) _).alloc (by simp <;> omega) _, ?_⟩
  rw [if_pos H.out]; rfl

/-- The rows of a command that came of command, in a world behind. -/
theorem M_far {w : World} {Z : Nat} {W W1 : World} {c : Cmd} {A1 A2 A3 : Option Addr} {n1 c1 n2 c2 n3 c3 : Nat} {g : Option Nat} (hZ : Z ≤ W.heap.size) (hw : w.heap.size ≤ W.heap.size)
    (h1 : Kd.string.R 9 W1 W.heap.size (fun _ => True) (.slice A1 n1 c1) (c.words.map mk)) (h2 : (Kd.int .i64).R 2 W1 W.heap.size (fun _ => True) (.slice A2 n2 c2) c.nums) (h3 : (Kd.int .u8).R 5 W1 W.heap.size (fun _ => True) (.slice A3 n3 c3) c.bytes)
    (hg : ∀ b, g = some b → b < W.heap.size) :
    kdCmd.M W1 w.heap.size (fun k => Z ≤ k ∧ some k ≠ g) c [.int .i64 c.line, .string (mk c.verb), .slice A1 n1 c1, .slice A2 n2 c2, .slice A3 n3 c3] := by
  have aux : ∀ k, W.heap.size ≤ k → Z ≤ k ∧ some k ≠ g := fun k hk => ⟨by omega, fun e => by have := hg k e.symm; omega⟩
  refine kdCmd_M (Kd.R_mono (Kd.R_lower (Kd.R_bound h1) hw) (fun k hk => aux k hk.2.1)) (Kd.R_mono (Kd.R_lower (Kd.R_bound h2) hw) (fun k hk => aux k hk.2.1)) (Kd.R_mono (Kd.R_lower (Kd.R_bound h3) hw) (fun k hk => aux k hk.2.1))

theorem up {w : World} {k : Nat} {x : Obj} (o : Obj) (h : w.heap[k]? = some x) : (w.alloc o).heap[k]? = some x := (Below.heap_alloc w o k (Array.getElem?_eq_some_iff.1 h).1).trans h
theorem fresh (w : World) (o : Obj) {n : Nat} (h : w.heap.size = n) : (w.alloc o).heap[n]? = some o := by subst h; exact World.alloc_heap_new w o

theorem parseLines_app : ∀ (k : Nat) (l : B) (r : List B) (acc : List Cmd), parseLines k (l :: r) acc = match wordsOf l with
    | [] => parseLines (k + 1) r acc
    | w => match readCmd w with
      | none => .error (k + 1)
      | some c => parseLines (k + 1) r (acc ++ [{ c with line := (k : Int) + 1 }]) := fun _ _ _ _ => rfl

set_option maxRecDepth 100000 in
set_option maxHeartbeats 4000000 in
theorem parse_full (s : ByteArray) (w : World) (h : s.size ≤ 65536) (henv : Env w) : CallsIn Fence.wide 5 Tryz.prog 7 #[.string s] w (ParsePost w s) := by
  refine callsIn_of_wp_marks Tryz.func7 rfl trivial ?_ rfl
  simp only [Tryz.ntmps7, List.size_toArray, List.length_cons, List.length_nil, Nat.reduceAdd, Nat.reduceSub, Array.replicate_succ, Array.replicate_zero, List.push_toArray, List.append_toArray, List.nil_append, List.cons_append]
  have h1 : ¬ (65536 : Int) < (s.size : Int) := by omega
  have H := Lib.hid h
  have HE := Lib.hid henv
  clear h henv
  gi_wp2_with (gi_at_call 18; refine (callsIn_wide.2 (splitseq_call _ _ _)).mono ?_; rintro e w' ⟨rfl, rfl⟩)
  simp only [Nat.add_assoc, Nat.reduceAdd]
  obtain ⟨W0, hW0⟩ : ∃ W0, ((((((((w.alloc (.cells #[.slice none 0 0] 23)).alloc (.cells #[.int .i64 0] 3)).alloc (.cells #[.nilIface] 25)).alloc (.cells #[.slice none 0 0] 23)).alloc (.cells #[.int .i64 0] 3)).alloc (.cells #[.string s] 9)).alloc (.cells #[.string ⟨#[10]⟩] 9)).alloc (.cells #[.int .i64 0] 3)) = W0 := ⟨_, rfl⟩
  have hsz : W0.heap.size = w.heap.size + 8 := by rw [← hW0]; simp only [World.size_alloc]
  have hb : Below w.heap.size w W0 := by
    rw [← hW0]
    exact (((((((((Below.refl _ w).alloc (Nat.le_refl _) _).alloc (by simp) _).alloc (by simp <;> omega) _).alloc (by simp <;> omega) _).alloc (by simp <;> omega) _).alloc (by simp <;> omega) _).alloc (by simp <;> omega) _).alloc (by simp <;> omega) _)
  have q0 : W0.heap[w.heap.size]? = some (.cells #[.slice none 0 0] 23 (0, 0)) := by
    rw [← hW0]; exact up _ (up _ (up _ (up _ (up _ (up _ (up _ (fresh w _ rfl)))))))
  have q1 : W0.heap[w.heap.size + 1]? = some (.cells #[.int .i64 0] 3 (0, 0)) := by
    rw [← hW0]; exact up _ (up _ (up _ (up _ (up _ (up _ (fresh _ _ (by simp)))))))
  have q2 : W0.heap[w.heap.size + 2]? = some (.cells #[.nilIface] 25 (0, 0)) := by
    rw [← hW0]; exact up _ (up _ (up _ (up _ (up _ (fresh _ _ (by simp))))))
  have q3 : W0.heap[w.heap.size + 3]? = some (.cells #[.slice none 0 0] 23 (0, 0)) := by
    rw [← hW0]; exact up _ (up _ (up _ (up _ (fresh _ _ (by simp)))))
  have q4 : W0.heap[w.heap.size + 4]? = some (.cells #[.int .i64 0] 3 (0, 0)) := by
    rw [← hW0]; exact up _ (up _ (up _ (fresh _ _ (by simp))))
  have q5 : W0.heap[w.heap.size + 5]? = some (.cells #[.string s] 9 (0, 0)) := by
    rw [← hW0]; exact up _ (up _ (fresh _ _ (by simp)))
  have q6 : W0.heap[w.heap.size + 5 + 1]? = some (.cells #[.string ⟨#[10]⟩] 9 (0, 0)) := by
    rw [← hW0]; exact up _ (fresh _ _ (by simp))
  have q7 : W0.heap[w.heap.size + 5 + 2]? = some (.cells #[.int .i64 0] 3 (0, 0)) := by
    rw [← hW0]; exact fresh _ _ (by simp)
  have hPI : PI w 0 [] W0 := ⟨q0, q1, q2, ⟨_, q3, Kd.R_nil _ _ _ _ _⟩, q4, hb, by omega⟩
  rw [hW0]
  have HPI := Lib.hid hPI
  have h5 : w.heap.size + 5 < W0.heap.size := by omega
  clear q0 q1 q2 q3 q4 hW0 hPI hb
  refine wpIn_rangeFunc_C (encs := fun x : ByteArray => #[Value.string x]) rfl (by omega) (gf := 52) (lb := #[.pointer (some ⟨w.heap.size + 6, 0, none⟩), .pointer (some ⟨w.heap.size + 5, 0, none⟩), .pointer (some ⟨w.heap.size + 7, 0, none⟩)]) rfl trivial (enters_of Tryz.func52 (by kernel_rfl) rfl)
    (split_seq 4 (w.heap.size + 5) s (by omega) (by omega) W0 q5 q6 q7) h5
    (fun h k j a b => (k j a b).trans (h j a b)) (fun W l o hl j a b => World.putObj_heap_other (by omega)) (fun _ => rfl)
    (fun pre W => ∃ cs, PI w pre.length cs W ∧ cs.length ≤ pre.length ∧ ∀ rest, parseLines 0 (pre.map (·.data.toList) ++ rest) [] = parseLines pre.length rest cs)
    (fun c pre W => c = .ret ∧ ∃ k : Nat, W.heap[w.heap.size]? = some (.cells #[.slice none 0 0] 23 (0, 0)) ∧ W.heap[w.heap.size + 1]? = some (.cells #[.int .i64 k] 3 (0, 0)) ∧ W.heap[w.heap.size + 2]? = some (.cells #[.iface 47 (.int .i64 337)] 25 (0, 0)) ∧ Below w.heap.size w W ∧ parseLines 0 (lines s.data.toList) [] = .error k)
    (fun _ A W row h hg hr => by obtain ⟨cs, h1, h2⟩ := h; exact ⟨cs, h1.noncell hg (fun r e => ⟨by have := (hr r e).1; omega, (hr r e).2⟩), h2⟩)
    (fun c _ A W row h hg hr => ⟨h.1, by obtain ⟨k, h0, h1, h2, h3, h4⟩ := h.2; exact ⟨k, heap_noncell h0 hg (fun r e => (hr r e).2), heap_noncell h1 hg (fun r e => (hr r e).2), heap_noncell h2 hg (fun r e => (hr r e).2), h3.grown hg h3.size (fun r e => by have := (hr r e).1; omega), h4⟩⟩)
    (fun _ A W h hg => by obtain ⟨cs, h1, h2⟩ := h; exact ⟨cs, h1.own hg, h2⟩)
    (fun c _ A W h hg => ⟨h.1, by obtain ⟨k, h0, h1, h2, h3, h4⟩ := h.2; exact ⟨k, blk_grown h0 hg (fun e => by injection e; omega), blk_grown h1 hg (fun e => by injection e; omega), blk_grown h2 hg (fun e => by injection e; omega), h3.grown hg h3.size (fun r e => by injection e; omega), h4⟩⟩)
    ⟨[], HPI.out, Nat.le_refl _, fun _ => rfl⟩
    (fun x => { tmps := #[.string s, undef, .pointer (some ⟨w.heap.size, 0, none⟩), .pointer (some ⟨w.heap.size + 1, 0, none⟩), .pointer (some ⟨w.heap.size + 2, 0, none⟩), .pointer (some ⟨w.heap.size + 3, 0, none⟩), .pointer (some ⟨w.heap.size + 4, 0, none⟩), .string x, undef, undef, undef, .string s, .int .i64 s.size, .bool false, undef, .string s, .func (.func 52) #[] #[.pointer (some ⟨w.heap.size + 6, 0, none⟩), .pointer (some ⟨w.heap.size + 5, 0, none⟩), .pointer (some ⟨w.heap.size + 7, 0, none⟩)], .string x, undef, undef, undef, undef, undef, undef, undef, undef, undef, undef, undef, undef, undef, undef, undef, undef, undef, undef, undef, undef, undef, undef, undef, undef, undef, undef, undef, undef, undef], defers := [] })
    ?assign ?body ?done ?stop
  case assign =>
    intro l x W K hK
    gi_wp2
    exact hK
  case body =>
    intro l pre x post W hI hx
    obtain ⟨cs, hP, hcl, hrel⟩ := hI
    have hlin : lines s.data.toList = pre.map (·.data.toList) ++ x.data.toList :: post.map (·.data.toList) := by
      have := congrArg (List.map (·.data.toList)) hx
      simpa [Function.comp_def, mk_data] using this
    have hnx := (lines_size s.data.toList).2 x.data.toList (by rw [hlin]; simp)
    have hnl := (lines_size s.data.toList).1
    rw [hlin, List.length_append, List.length_cons, List.length_map] at hnl
    have hs1 := Lib.size_eq s
    have hs2 := Lib.size_eq x
    have hnc := noteCut_size x.data.toList
    have hF := fun W => fields_any (mk (noteCut x.data.toList)) W (by rw [mk_size]; omega)
    have hpm : pre.length ≤ 65537 := by have := H.out; omega
    have hcut := fun W => cut_any x W (by have := H.out; omega)
    rw [mk_data] at hF
    have hfs := fieldsGo_size (noteCut x.data.toList) []
    have hone := hrel (x.data.toList :: post.map (·.data.toList))
    rw [← hlin, parseLines_app] at hone
    have hre : ∀ rest, parseLines 0 ((pre ++ [x]).map (·.data.toList) ++ rest) [] = parseLines pre.length (x.data.toList :: rest) cs := fun rest => by
      rw [List.map_append, List.append_assoc]; exact hrel _
    have hP1 := hP.line
    have c4 : W.cell? ⟨w.heap.size + 4, 0, none⟩ = some (.int .i64 pre.length) := blk_cell hP.lin 0
    have f4 : W.frozen? ⟨w.heap.size + 4, 0, none⟩ = false := blk_frozen hP.lin 0
    have HONE := Lib.hid hone
    have HP := Lib.hid hP
    have HP1 := Lib.hid hP1
    have HRE := Lib.hid hre
    have HF := Lib.hid hF
    have HCU := Lib.hid hcut
    have HFS := Lib.hid hfs
    have HSX := Lib.hid hs2
    have HNC := Lib.hid hnc
    have HNX := Lib.hid hnx
    have hpl : (pre ++ [x]).length = pre.length + 1 := by simp
    have HPL := Lib.hid hpl
    have HCL := Lib.hid hcl
    clear hx hlin hnx hs2 hnc hF hcut hfs hone hrel hre hP hP1 hcl hpl hnl
    simp only []
    rcases hws : wordsOf x.data.toList with _ | ⟨v, rs⟩
    · have HWS := Lib.hid hws
      clear hws
      gi_wp2_with (first
        | (gi_at_call 19; refine (CallsIn.inRound l (callsIn_wide.2 (HCU.out _))).mono ?_; rintro e w2 ⟨y, z, rfl, hb2⟩; dsimp only; have HB2 := Lib.hid hb2; clear hb2)
        | (gi_at_call 20; refine (CallsIn.inRound l (callsIn_wide.2 (HF.out _))).mono ?_; rintro e w3 ⟨u, rfl, hR3, hb3⟩; rw [show fieldsGo [] (noteCut x.data.toList) = [] from HWS.out] at hR3; obtain ⟨A3, q3, rfl⟩ := Kd.R_slice hR3; dsimp only; have HB3 := Lib.hid hb3; clear hb3 hR3))
      refine ⟨((KeepsOthers.setCell _ _ _).trans (keeps_below HB2.out)).trans (keeps_below HB3.out), fun k ka kb => ?_, cs, ?_, by have := HCL.out; rw [HPL.out]; omega, fun rest => ?_⟩
      · have hs1 := HP.out.size
        have hs2 := HB2.out.size
        rw [HB3.out.block k (by simp at hs2; omega), HB2.out.block k (by simp; omega), Below.heap_setCell _ _ _ _ (by show k ≠ w.heap.size + 4; omega)]
      · rw [HPL.out]; exact (HP1.out.below1 HB2.out).below1 HB3.out
      · rw [HRE.out, parseLines_app, HWS.out, HPL.out]
    · have hf : fieldsGo [] (noteCut x.data.toList) = v :: rs := hws
      have hfs := HFS.out
      rw [hf] at hfs
      have hn1 : (rs.map mk).length < 4294967295 := by
        have a1 := hfs.1
        rw [List.length_cons] at a1
        have a2 := HNC.out; have a3 := HNX.out; have a4 := H.out
        rw [List.length_map]; omega
      have hn2 : ∀ y ∈ rs.map mk, y.size ≤ 140737488351232 := by
        intro y hy
        obtain ⟨z, hz, rfl⟩ := List.mem_map.1 hy
        have a1 := hfs.2 z (List.mem_cons_of_mem _ hz)
        rw [List.length_nil] at a1
        have a2 := HNC.out; have a3 := HNX.out; have a4 := H.out
        rw [mk_size]; omega
      have hid : ((mk v :: rs.map mk).map (·.data.toList)) = v :: rs := by simp [Function.comp_def, mk_data]
      have HID := Lib.hid hid
      have HN1 := Lib.hid hn1
      have HN2 := Lib.hid hn2
      have HFE := Lib.hid hf
      have HWS := Lib.hid hws
      obtain ⟨L, hL⟩ : ∃ L, (List.map mk (v :: rs)).length = L := ⟨_, rfl⟩
      have hL0 : 0 < L := by rw [← hL]; simp
      have HL := Lib.hid hL
      have hs8 := HP.out.size
      clear hf hfs hn1 hn2 hid hws hL
      rcases hrc : readCmd (v :: rs) with _ | c
      · have HRC := Lib.hid hrc
        clear hrc
        gi_wp2_with (first
          | (gi_at_call 19; refine (CallsIn.inRound l (callsIn_wide.2 (HCU.out _))).mono ?_; rintro e w2 ⟨y, z, rfl, hb2⟩; dsimp only; have HB2 := Lib.hid hb2; have hsz2 := hb2.size; rw [World.size_setCell] at hsz2; clear hb2)
          | (gi_at_call 20; refine (CallsIn.inRound l (callsIn_wide.2 (HF.out _))).mono ?_; rintro e w3 ⟨u, rfl, hR3, hb3⟩; rw [HFE.out] at hR3; obtain ⟨g, q3, rfl, hg, hg2, _⟩ := Kd.R_form hR3 (by simp); have hP3 := (HP1.out.below1 HB2.out).below1 hb3; have hcm := command_any g 0 q3 (mk v) (rs.map mk) w3 (Kd.R_reads' hR3).2.2 (Kd.R_reads' hR3).2.1 HN1.out HN2.out (HE.out.below hP3.below); rw [show (mk v :: List.map mk rs).length = L from HL.out, HID.out, HRC.out] at hcm; rw [HL.out]; dsimp only; have HCM := Lib.hid hcm; have HP3 := Lib.hid hP3; have HB3 := Lib.hid hb3; have hsz3 : W.heap.size ≤ w3.heap.size := Nat.le_trans hsz2 hb3.size; clear hb3 hR3 hcm hP3)
          | (gi_at_call 22; refine (CallsIn.inRound l (callsIn_wide.2 HCM.out)).mono ?_; rintro e w4 ⟨hb4, lb, vb, A1, n1, d1, A2, n2, d2, A3, n3, d3, rfl⟩; dsimp only; have hP4 := HP3.out.below1 hb4; have hz4 := hP4.size; have HP4 := Lib.hid hP4; have HB4 := Lib.hid hb4; clear hP4 hb4; have hP50 := HP4.out.below1 ((Below.refl _ w4).alloc (Nat.le_refl _) (Obj.cells #[Value.int IntKind.i64 lb, Value.string vb, Value.slice A1 n1 d1, Value.slice A2 n2 d2, Value.slice A3 n3 d3] 37)); have i00 := blk_cell hP50.r0 0; have j00 := blk_frozen hP50.r0 0; have i10 := blk_cell hP50.r1 0; have j10 := blk_frozen hP50.r1 0; have i20 := blk_cell hP50.r2 0; have j20 := blk_frozen hP50.r2 0; have i40 := blk_cell hP50.lin 0; have j40 := blk_frozen hP50.lin 0; clear hP50))
        have hP6 := HP4.out.below1 ((Below.refl _ w4).alloc (Nat.le_refl _) (Obj.cells #[Value.int IntKind.i64 lb, Value.string vb, Value.slice A1 n1 d1, Value.slice A2 n2 d2, Value.slice A3 n3 d3] 37))
        have hk6 : KeepsOthers W (w4.alloc (Obj.cells #[Value.int IntKind.i64 lb, Value.string vb, Value.slice A1 n1 d1, Value.slice A2 n2 d2, Value.slice A3 n3 d3] 37)) :=
          ((((KeepsOthers.setCell _ _ _).trans (keeps_below HB2.out)).trans (keeps_below HB3.out)).trans (keeps_below HB4.out)).trans (keeps_below ((Below.refl _ w4).alloc (Nat.le_refl _) _))
        have hz8 := HP.out.size
        have hbW : Below w.heap.size W (w4.alloc (Obj.cells #[Value.int IntKind.i64 lb, Value.string vb, Value.slice A1 n1 d1, Value.slice A2 n2 d2, Value.slice A3 n3 d3] 37)) := (((((Below.refl _ W).setCell (by show w.heap.size ≤ w.heap.size + 4; omega) _).trans (HB2.out.mono (by simp; omega))).trans (HB3.out.mono (by omega))).trans (HB4.out.mono (by omega))).alloc (by omega) _
        refine region13 (D := w.heap.size) (k := ((pre.length + 1 : Nat) : Int)) (B := w.heap.size) (W0 := W) (Nat.le_refl _) ⟨by simp, rfl, rfl, rfl, rfl, fun e => (by cases e), fun e => (by cases e), hP6.r0, ⟨_, hP6.r1, fun e => (by cases e)⟩, ⟨_, hP6.r2, fun e => (by cases e)⟩, hP6.lin, hk6, hbW⟩ (fun a7 W7 h7 => ?_)
        clear hbW hk6 hP6
        have H7 := Lib.hid h7
        clear h7
        gi_wp2
        obtain ⟨x1, h1, e1⟩ := H7.out.r1
        obtain ⟨x2, h2, e2⟩ := H7.out.r2
        cases e1 rfl
        cases e2 rfl
        refine ⟨H7.out.keeps, rfl, pre.length + 1, H7.out.r0, h1, h2, HP.out.below.trans H7.out.below, ?_⟩
        rw [HONE.out, HWS.out]
        simp only [HRC.out]
      · have HRC := Lib.hid hrc
        clear hrc
        gi_wp2_with (first
          | (gi_at_call 19; refine (CallsIn.inRound l (callsIn_wide.2 (HCU.out _))).mono ?_; rintro e w2 ⟨y, z, rfl, hb2⟩; dsimp only; have HB2 := Lib.hid hb2; have hsz2 := hb2.size; rw [World.size_setCell] at hsz2; clear hb2)
          | (gi_at_call 20; refine (CallsIn.inRound l (callsIn_wide.2 (HF.out _))).mono ?_; rintro e w3 ⟨u, rfl, hR3, hb3⟩; rw [HFE.out] at hR3; obtain ⟨g, q3, rfl, hg, hg2, _⟩ := Kd.R_form hR3 (by simp); have hP3 := (HP1.out.below1 HB2.out).below1 hb3; have hcm := command_any g 0 q3 (mk v) (rs.map mk) w3 (Kd.R_reads' hR3).2.2 (Kd.R_reads' hR3).2.1 HN1.out HN2.out (HE.out.below hP3.below); rw [show (mk v :: List.map mk rs).length = L from HL.out, HID.out, HRC.out] at hcm; rw [HL.out]; dsimp only; have HCM := Lib.hid hcm; have HP3 := Lib.hid hP3; have HB3 := Lib.hid hb3; have hsz3 : W.heap.size ≤ w3.heap.size := Nat.le_trans hsz2 hb3.size; clear hb3 hR3 hcm hP3)
          | (gi_at_call 22; refine (CallsIn.inRound l (callsIn_wide.2 HCM.out)).mono ?_; rintro e w4 ⟨hb4, A1, n1, d1, A2, n2, d2, A3, n3, d3, rfl, hr1, hr2, hr3⟩; dsimp only; obtain ⟨vo, hvo3, hro3⟩ := HP3.out.out; have hlt3 := (Array.getElem?_eq_some_iff.1 hvo3).1; have hP4 := HP3.out.below1 hb4; have hz4 := hP4.size; have hP50 := hP4.below1 ((Below.refl _ w4).alloc (Nat.le_refl _) (Obj.cells #[Value.int IntKind.i64 0, Value.string (mk c.verb), Value.slice A1 n1 d1, Value.slice A2 n2 d2, Value.slice A3 n3 d3] 37)); have i40 := blk_cell hP50.lin 0; have j40 := blk_frozen hP50.lin 0; clear hP50; have hP51 := hP4.below1 ((Below.refl _ w4).alloc (Nat.le_refl _) (Obj.cells #[Value.int IntKind.i64 ((pre.length : Int) + 1), Value.string (mk c.verb), Value.slice A1 n1 d1, Value.slice A2 n2 d2, Value.slice A3 n3 d3] 37)); have i41 := blk_cell hP51.lin 0; have j41 := blk_frozen hP51.lin 0; clear hP51; have hvo5 := up (Obj.cells #[Value.int IntKind.i64 ((pre.length : Int) + 1), Value.string (mk c.verb), Value.slice A1 n1 d1, Value.slice A2 n2 d2, Value.slice A3 n3 d3] 37) ((hb4.block _ hlt3).trans hvo3); have i31 := blk_cell hvo5 0; have j31 := blk_frozen hvo5 0; have hro5 := Kd.R_alloc (Kd.R_below hro3 hb4) (Obj.cells #[Value.int IntKind.i64 ((pre.length : Int) + 1), Value.string (mk c.verb), Value.slice A1 n1 d1, Value.slice A2 n2 d2, Value.slice A3 n3 d3] 37); have hM := M_far (w := w) (Z := w.heap.size + 8) (W := w3) (c := { c with line := (pre.length : Int) + 1 }) (g := vo.ownBlock) HP3.out.size HP3.out.below.size (Kd.R_alloc hr1 (Obj.cells #[Value.int IntKind.i64 ((pre.length : Int) + 1), Value.string (mk c.verb), Value.slice A1 n1 d1, Value.slice A2 n2 d2, Value.slice A3 n3 d3] 37)) (Kd.R_alloc hr2 (Obj.cells #[Value.int IntKind.i64 ((pre.length : Int) + 1), Value.string (mk c.verb), Value.slice A1 n1 d1, Value.slice A2 n2 d2, Value.slice A3 n3 d3] 37)) (Kd.R_alloc hr3 (Obj.cells #[Value.int IntKind.i64 ((pre.length : Int) + 1), Value.string (mk c.verb), Value.slice A1 n1 d1, Value.slice A2 n2 d2, Value.slice A3 n3 d3] 37)) (fun b e => Kd.R_lt hro3 b e); have HM := Lib.hid hM; have HVO := Lib.hid hvo5; have HRO := Lib.hid hro5; have HP4 := Lib.hid hP4; have HB4 := Lib.hid hb4; clear hP4 hb4 hM hvo5 hro5 hvo3 hro3 hr1 hr2 hr3 hlt3)
          | (gi_at_builtin; refine R_append_in kdCmd (W := w4.alloc (Obj.cells #[Value.int IntKind.i64 ((pre.length : Int) + 1), Value.string (mk c.verb), Value.slice A1 n1 d1, Value.slice A2 n2 d2, Value.slice A3 n3 d3] 37)) w.heap.size rfl (.tmp 42) (.tmp 44) 23 37 (.agg #[.int .i64 0, .string ⟨#[]⟩, .slice none 0 0, .slice none 0 0, .slice none 0 0]) 96 rfl Tryz.underlying23 info37 rfl (by decide) (by omega) vo cs { c with line := (pre.length : Int) + 1 } [Value.int IntKind.i64 ((pre.length : Int) + 1), Value.string (mk c.verb), Value.slice A1 n1 d1, Value.slice A2 n2 d2, Value.slice A3 n3 d3] (fun k => w.heap.size + 8 ≤ k) (fun k => w.heap.size + 8 ≤ k ∧ some k ≠ vo.ownBlock) rfl ?aX ?aP (fun _ hk => hk) ?aF ?aO ?aS ?aL ?_; (case aX => (simp only [World.size_alloc]; rfl)); (case aP => exact HM.out); (case aF => (intro k hk; have hk' : w4.heap.size + 1 ≤ k := (by simpa using hk); omega)); (case aO => exact HRO.out); (case aS => ((try simp only [World.size_alloc]); omega)); (case aL => (have := HCL.out; omega)); intro v1 w5 ho hg5 hat; obtain ⟨A9, q9, rfl⟩ := Kd.R_slice ho; have hbk5 := blk_grown HVO.out hg5 (fun e => by have := HRO.out.1 _ e.symm; omega); have i35 : w5.cell? ⟨w.heap.size + 3, 0, none⟩ = some vo := blk_cell hbk5 0; have j35 := blk_frozen hbk5 0; have HBK := Lib.hid hbk5; have HO := Lib.hid ho; have HG5 := Lib.hid hg5; clear hbk5 ho hg5 hat; simp only [Act.put, List.setIfInBounds_toArray, List.set_cons_zero, List.set_cons_succ]))
        have hP5 := HP4.out.below1 ((Below.refl _ w4).alloc (Nat.le_refl _) (Obj.cells #[Value.int IntKind.i64 ((pre.length : Int) + 1), Value.string (mk c.verb), Value.slice A1 n1 d1, Value.slice A2 n2 d2, Value.slice A3 n3 d3] 37))
        have hk5 : KeepsOthers W (w4.alloc (Obj.cells #[Value.int IntKind.i64 ((pre.length : Int) + 1), Value.string (mk c.verb), Value.slice A1 n1 d1, Value.slice A2 n2 d2, Value.slice A3 n3 d3] 37)) :=
          ((((KeepsOthers.setCell _ _ _).trans (keeps_below HB2.out)).trans (keeps_below HB3.out)).trans (keeps_below HB4.out)).trans (keeps_below ((Below.refl _ w4).alloc (Nat.le_refl _) _))
        have hne : ∀ k, vo.ownBlock = some k → w.heap.size + 8 ≤ k := HRO.out.1
        have hz2 : W.heap.size ≤ w2.heap.size := hsz2
        have hz3 := HB3.out.size
        have hz4' := HB4.out.size
        have hz5 := HG5.out.size
        rw [World.size_alloc] at hz5
        refine ⟨(hk5.trans (keeps_R HRO.out HG5.out)).trans (KeepsOthers.setCell _ _ _), fun k ka kb => ?_, cs ++ [{ c with line := (pre.length : Int) + 1 }], ?_, ?_, fun rest => ?_⟩
        · rw [Below.heap_setCell _ _ _ _ (by show k ≠ w.heap.size + 3; omega), HG5.out.block k (by rw [World.size_alloc]; omega) (fun e => by have := hne k e.symm; omega), Below.heap_alloc _ _ _ (by omega), HB4.out.block k (by omega), HB3.out.block k (by omega), HB2.out.block k (by rw [World.size_setCell]; omega), Below.heap_setCell _ _ _ _ (by show k ≠ w.heap.size + 4; omega)]
        · rw [HPL.out]
          refine ⟨blk_far (blk_grown hP5.r0 HG5.out (fun e => by have := hne _ e.symm; omega)) (by simp) _, blk_far (blk_grown hP5.r1 HG5.out (fun e => by have := hne _ e.symm; omega)) (by simp) _, blk_far (blk_grown hP5.r2 HG5.out (fun e => by have := hne _ e.symm; omega)) (by simp) _,
            ⟨_, blk_set HBK.out 0 _, ?_⟩, blk_far (blk_grown hP5.lin HG5.out (fun e => by have := hne _ e.symm; omega)) (by simp) _, ?_, by rw [World.size_setCell]; omega⟩
          · have h := Kd.R_set HO.out HBK.out (fun q hq => (kdCmd_E q hq).2.1) 0 (.slice A9 (cs.length + 1) q9)
            rw [List.length_append] at h
            exact h
          · exact (hP5.below.grown HG5.out hP5.below.size (fun k e => by have := hne k e; omega)).setCell (by show w.heap.size ≤ w.heap.size + 3; omega) _
        · rw [HPL.out, List.length_append]; have := HCL.out; simp; exact this
        · rw [HRE.out, parseLines_app, HWS.out, HPL.out]
          simp only [HRC.out]
  case done =>
    intro D W hD0 hI hK
    obtain ⟨cs, hP, _, hrel⟩ := hI
    have hfin : parseLines 0 (lines s.data.toList) [] = .ok cs := by
      have := hrel []
      rw [List.append_nil] at this
      simpa [Function.comp_def, mk_data, parseLines] using this
    obtain ⟨v, hv, hR⟩ := hP.out
    obtain ⟨A1, q1, rfl⟩ := Kd.R_slice hR
    have c0 : W.cell? ⟨w.heap.size, 0, none⟩ = some (.slice none 0 0) := blk_cell hP.r0 0
    have c1 : W.cell? ⟨w.heap.size + 1, 0, none⟩ = some (.int .i64 0) := blk_cell hP.r1 0
    have c2 : W.cell? ⟨w.heap.size + 2, 0, none⟩ = some .nilIface := blk_cell hP.r2 0
    have c3 : W.cell? ⟨w.heap.size + 3, 0, none⟩ = some (.slice A1 cs.length q1) := blk_cell hv 0
    have f0 : W.frozen? ⟨w.heap.size, 0, none⟩ = false := blk_frozen hP.r0 0
    have f1 : W.frozen? ⟨w.heap.size + 1, 0, none⟩ = false := blk_frozen hP.r1 0
    have f2 : W.frozen? ⟨w.heap.size + 2, 0, none⟩ = false := blk_frozen hP.r2 0
    have HP := Lib.hid hP
    have HR := Lib.hid hR
    have HK := Lib.hid hK
    have HFI := Lib.hid hfin
    have hDW : D < W.heap.size := (Array.getElem?_eq_some_iff.1 hK).1
    clear hP hv hR hK hrel hfin
    gi_wp2
    have g0 := blk_far (blk_far (blk_set HP.out.r0 0 (.slice A1 cs.length q1)) (p := ⟨w.heap.size + 1, 0, none⟩) (by simp) (.int .i64 0)) (p := ⟨w.heap.size + 2, 0, none⟩) (by simp) .nilIface
    have g1 := blk_far (blk_set (blk_far HP.out.r1 (p := ⟨w.heap.size, 0, none⟩) (by simp) (.slice A1 cs.length q1)) 0 (.int .i64 0)) (p := ⟨w.heap.size + 2, 0, none⟩) (by simp) .nilIface
    have g2 := blk_set (blk_far (blk_far HP.out.r2 (p := ⟨w.heap.size, 0, none⟩) (by simp) (.slice A1 cs.length q1)) (p := ⟨w.heap.size + 1, 0, none⟩) (by simp) (.int .i64 0)) 0 .nilIface
    have hK2 : (((W.setCell ⟨w.heap.size, 0, none⟩ (.slice A1 cs.length q1)).setCell ⟨w.heap.size + 1, 0, none⟩ (.int .i64 0)).setCell ⟨w.heap.size + 2, 0, none⟩ .nilIface).heap[D]? = some (.deferred (some [])) := by
      rw [Below.heap_setCell _ _ _ _ (by show D ≠ w.heap.size + 2; omega), Below.heap_setCell _ _ _ _ (by show D ≠ w.heap.size + 1; omega), Below.heap_setCell _ _ _ _ (by show D ≠ w.heap.size; omega)]; exact HK.out
    have hB2 : Below w.heap.size w (((W.setCell ⟨w.heap.size, 0, none⟩ (.slice A1 cs.length q1)).setCell ⟨w.heap.size + 1, 0, none⟩ (.int .i64 0)).setCell ⟨w.heap.size + 2, 0, none⟩ .nilIface) := ((HP.out.below.setCell (Nat.le_refl _) _).setCell (by simp) _).setCell (by simp) _
    have hR2 := Kd.R_set (Kd.R_set (Kd.R_set HR.out HP.out.r0 (fun q hq => (kdCmd_E q hq).2.1) 0 (.slice A1 cs.length q1)) (blk_far HP.out.r1 (p := ⟨w.heap.size, 0, none⟩) (by simp) (.slice A1 cs.length q1)) (fun q hq => (kdCmd_E q hq).1) 0 (.int .i64 0))
      (blk_far (blk_far HP.out.r2 (p := ⟨w.heap.size, 0, none⟩) (by simp) (.slice A1 cs.length q1)) (p := ⟨w.heap.size + 1, 0, none⟩) (by simp) (.int .i64 0)) (fun q hq => (kdCmd_E q hq).2.2) 0 .nilIface
    generalize ((W.setCell ⟨w.heap.size, 0, none⟩ (.slice A1 cs.length q1)).setCell ⟨w.heap.size + 1, 0, none⟩ (.int .i64 0)).setCell ⟨w.heap.size + 2, 0, none⟩ .nilIface = W2 at *
    have e0 : (W2.putObj D (.deferred none)).heap[w.heap.size]? = some (.cells #[.slice A1 cs.length q1] 23 (0, 0)) := (World.putObj_heap_other (by omega)).trans g0
    have e1 : (W2.putObj D (.deferred none)).heap[w.heap.size + 1]? = some (.cells #[.int .i64 0] 3 (0, 0)) := (World.putObj_heap_other (by omega)).trans g1
    have e2 : (W2.putObj D (.deferred none)).heap[w.heap.size + 2]? = some (.cells #[.nilIface] 25 (0, 0)) := (World.putObj_heap_other (by omega)).trans g2
    refine leave1 rfl hK2 (results7 _ _ _ _ _ _ _ _ rfl rfl rfl (cell_of_row _ _ 0 _ _ _ e0) (cell_of_row _ _ 0 _ _ _ e1) (cell_of_row _ _ 0 _ _ _ e2)) ⟨below_put hB2 (by omega) hK2, ?_⟩
    rw [if_neg (by have := H.out; omega), HFI.out]
    have h := R_noncell hR2 (grownBy_putObj' W2 D (.deferred none)) (fun r e => by cases e; exact ⟨_, hK2, rfl⟩)
    exact ⟨A1, q1, rfl, (Kd.R_reads' h).2.1, (Kd.R_reads' h).2.2, fun hp => by obtain ⟨g, cap, e, _⟩ := Kd.R_form h hp; cases e; exact ⟨g, rfl⟩⟩
  case stop =>
    rintro D c pre W hD0 hpre ⟨rfl, k, hr0, hr1, hr2, hb, hbad⟩ hK
    gi_wp2
    have e0 : (W.putObj D (.deferred none)).heap[w.heap.size]? = some (.cells #[.slice none 0 0] 23 (0, 0)) := (World.putObj_heap_other (by omega)).trans hr0
    have e1 : (W.putObj D (.deferred none)).heap[w.heap.size + 1]? = some (.cells #[.int .i64 k] 3 (0, 0)) := (World.putObj_heap_other (by omega)).trans hr1
    have e2 : (W.putObj D (.deferred none)).heap[w.heap.size + 2]? = some (.cells #[.iface 47 (.int .i64 337)] 25 (0, 0)) := (World.putObj_heap_other (by omega)).trans hr2
    refine leave1 rfl hK (results7 _ _ _ _ _ _ _ _ rfl rfl rfl (cell_of_row _ _ 0 _ _ _ e0) (cell_of_row _ _ 0 _ _ _ e1) (cell_of_row _ _ 0 _ _ _ e2)) ⟨below_put hb (by omega) hK, ?_⟩
    rw [if_neg (by have := H.out; omega), hbad]
    rfl
/-- script.Parse. -/
theorem parse_any (s : ByteArray) (w : World) (henv : Env w) : Calls Tryz.prog 7 #[.string s] w (ParsePost w s) := by
  by_cases h : 65536 < s.size
  · exact callsIn_wide.1 (parse_long s w h)
  · exact callsIn_wide.1 (parse_full s w (by omega) henv)
end Go.Proofs.YtfiacgkhkonilaaGreatDoor

/- The walk of the document's Read: a line's words as a command. -/
namespace Go.Proofs.YtfiacgkhkonilaaGreatDoor
open Go Go.RowKit Go.Shelf Go.Proofs.YtfiacgkhkonilaaGreatDoorW.PrintWords Go.Proofs.YtfiacgkhkonilaaGreatDoorW.PrintLast Go.Proofs.YtfiacgkhkonilaaGreatDoorW.PrintMore
open Go.Proofs.YtfiacgkhkonilaaGreatDoor.PName Go.Proofs.YtfiacgkhkonilaaGreatDoor.Pdigit Go.Proofs.YtfiacgkhkonilaaGreatDoor.PNumber Go.Proofs.YtfiacgkhkonilaaGreatDoor.Pwords

theorem drawn_below {w w' : World} (h : Drawn0 w w') : Below w.heap.size w w' := by
  obtain ⟨⟨n, rfl⟩⟩ := h
  exact pw_below_drewN (Below.refl _ _) n
/-- A piece of a row that is read. -/
def Win (A : Option Addr) (ws : List ByteArray) (A1 : Option Addr) (n1 c1 : Nat) (xs : List ByteArray) : Prop := n1 = xs.length ∧ n1 ≤ c1 ∧ ∀ W : World, Kd.string.C W A ws.length ws → Kd.string.C W A1 n1 xs
/-- What Read leaves. -/
def ReadPost (w : World) (A : Option Addr) (ws : List ByteArray) (o : Option Cmd) (e : Ending) (w' : World) : Prop := Below w.heap.size w w' ∧ match o with
  | some c => ∃ A1 n1 c1 A2 n2 c2 A3 n3 c3, e = .returned (.tuple #[.agg #[.int .i64 0, .string (mk c.verb), .slice A1 n1 c1, .slice A2 n2 c2, .slice A3 n3 c3], .bool true]) ∧ Win A ws A1 n1 c1 (c.words.map mk) ∧
      (Kd.int .i64).R 2 w' w.heap.size (fun _ => True) (.slice A2 n2 c2) c.nums ∧ (Kd.int .u8).R 5 w' w.heap.size (fun _ => True) (.slice A3 n3 c3) c.bytes
  | none => ∃ l vb A1 n1 c1 A2 n2 c2 A3 n3 c3, e = .returned (.tuple #[.agg #[.int .i64 l, .string vb, .slice A1 n1 c1, .slice A2 n2 c2, .slice A3 n3 c3], .bool false])
theorem win_nil (A : Option Addr) (ws : List ByteArray) : Win A ws none 0 0 ([].map mk) := ⟨rfl, Nat.le_refl _, fun W _ => Kd.C_nil _ W⟩

theorem ref_number (s : ByteArray) (w : World) : Calls Tryz.prog 43 #[.string s] w fun e w' => e = .returned (.tuple #[.int .i64 (ans (numOf s.data.toList)).1, .bool (ans (numOf s.data.toList)).2]) ∧ Below w.heap.size w w' :=
  (radomeref40_Number.calls 41 s _ _ w (by rw [number_law])).mono fun e w' ⟨h, hd⟩ => ⟨h, drawn_below hd⟩
theorem ref_name (s : ByteArray) (w : World) : Calls Tryz.prog 32 #[.string s] w fun e w' => e = .returned (.bool (isName s.data.toList)) ∧ Drawn0 w w' :=
  radomeref40_Name.calls 20 s _ w (name_law s)
theorem ref_digit (c : UInt8) (w : World) : Calls Tryz.prog 42 #[.int .u8 c.toNat] w fun e w' => e = .returned (.int .i64 (hexVal c)) ∧ Drawn0 w w' :=
  radomeref40_digit.calls 20 _ _ w (digit_law c)

theorem results24 (tmps : Array Value) (W : World) (D : Nat) (a b c d e : Value) (x : Bool) (h2 : tmps.getD 2 undef = .pointer (some ⟨D, 0, none⟩)) (h3 : tmps.getD 3 undef = .bool x)
    (h : W.heap[D]? = some (.cells #[a, b, c, d, e] 38 (0, 0))) :
    (results Tryz.f24 tmps).run Tryz.prog W = .ok (.tuple #[.agg #[a, b, c, d, e], .bool x]) W := by
  obtain ⟨d0, d1, d2, d3, d4⟩ : W.cell? ⟨D, 0, none⟩ = some a ∧ W.cell? ⟨D, 1, none⟩ = some b ∧ W.cell? ⟨D, 2, none⟩ = some c ∧ W.cell? ⟨D, 3, none⟩ = some d ∧ W.cell? ⟨D, 4, none⟩ = some e := ⟨blk_cell h 0, blk_cell h 1, blk_cell h 2, blk_cell h 3, blk_cell h 4⟩
  rw [Array.getD_eq_getD_getElem?] at h2 h3
  simp [results, Tryz.results24, go_sem, h2, h3, d0, d1, d2, d3, d4]

theorem cells38 {w : World} {g t : Nat} {a b c d e : Value} (h : w.heap[g]? = some (.cells #[a, b, c, d, e] t (0, 0))) :
    (w.cell? ⟨g, 0, none⟩ = some a ∧ w.cell? ⟨g, 1, none⟩ = some b ∧ w.cell? ⟨g, 2, none⟩ = some c ∧ w.cell? ⟨g, 3, none⟩ = some d ∧ w.cell? ⟨g, 4, none⟩ = some e) ∧
    (w.frozen? ⟨g, 0, none⟩ = false ∧ w.frozen? ⟨g, 1, none⟩ = false ∧ w.frozen? ⟨g, 2, none⟩ = false ∧ w.frozen? ⟨g, 3, none⟩ = false ∧ w.frozen? ⟨g, 4, none⟩ = false) := cells5 h
theorem set5_heap' {w : World} {g t : Nat} {a b c d e a0 b0 c0 d0 e0 : Value} (h : w.heap[g]? = some (.cells #[a0, b0, c0, d0, e0] t (0, 0))) : (set5 w g a b c d e).heap[g]? = some (.cells #[a, b, c, d, e] t (0, 0)) := set5_heap h
theorem numsOf_snoc : ∀ (a : List B) (x : B), numsOf (a ++ [x]) = (numsOf a).bind fun l => (numOf x).map fun y => l ++ [y]
  | [], x => by
    simp only [List.nil_append, numsOf, Option.bind_some]
    cases numOf x <;> rfl
  | c :: a, x => by
    simp only [List.cons_append, numsOf]
    cases numOf c with
    | none => rfl
    | some v =>
      simp only [numsOf_snoc a x]
      cases numsOf a with
      | none => rfl
      | some l => cases numOf x <;> rfl
theorem numsOf_mem {x : ByteArray} {l : List ByteArray} (h : numOf x.data.toList = none) (hx : x ∈ l) : numsOf (l.map (·.data.toList)) = none := by
  induction l with
  | nil => cases hx
  | cons a r ih =>
    simp only [List.map_cons, numsOf]
    rcases List.mem_cons.1 hx with rfl | hx
    · rw [h]
    · cases numOf a.data.toList with
      | none => rfl
      | some v => simp only [ih hx]; rfl

theorem countRef_tests (v : ByteArray) (n : Nat) : countRef v.data.toList n =
    if (v.toList == ([115, 101, 116] : List UInt8)) = true then ((n : Int) == 1) else if (v.toList == ([116, 114, 97, 99, 107] : List UInt8)) = true then ((n : Int) == 1)
    else if (v.toList == ([109, 111, 100, 101, 108] : List UInt8)) = true then ((n : Int) == 3)
    else if (v.toList == ([114, 111, 119] : List UInt8)) = true then (if (1 : Int) ≤ n then decide ((n : Int) ≤ 4) else false)
    else if (v.toList == ([115, 116, 97, 114, 116] : List UInt8)) = true then ((n : Int) == 0) else if (v.toList == ([116, 114, 97, 99, 107, 115] : List UInt8)) = true then ((n : Int) == 0) else if (v.toList == ([99, 111, 117, 110, 116, 115] : List UInt8)) = true then ((n : Int) == 0)
    else if (v.toList == ([116, 105, 109, 101] : List UInt8)) = true then ((n : Int) == 0) else if (v.toList == ([99, 111, 117, 110, 116] : List UInt8)) = true then ((n : Int) == 0)
    else if (v.toList == ([115, 99, 97, 110] : List UInt8)) = true then (if (3 : Int) ≤ n then (if (n : Int) ≤ 129 then ((n : Int) % 2 == 1) else false) else false)
    else false := by
  have hb : ∀ k : Nat, ((n : Int) == (k : Int)) = decide (n = k) := fun k => by
    by_cases h : n = k
    · subst h; simp
    · rw [decide_eq_false h, beq_eq_false_iff_ne]; omega
  have h0 : ((n : Int) == 0) = decide (n = 0) := hb 0
  have h1 : ((n : Int) == 1) = decide (n = 1) := hb 1
  have h3 : ((n : Int) == 3) = decide (n = 3) := hb 3
  have r : (if (1 : Int) ≤ n then decide ((n : Int) ≤ 4) else false) = (decide (1 ≤ n) && decide (n ≤ 4)) := by
    by_cases h : 1 ≤ n
    · rw [if_pos (by omega), decide_eq_true h, Bool.true_and]; exact dec_congr (by omega)
    · rw [if_neg (by omega), decide_eq_false h, Bool.false_and]
  have q : (if (3 : Int) ≤ n then (if (n : Int) ≤ 129 then ((n : Int) % 2 == 1) else false) else false) = (decide (3 ≤ n) && (decide (n ≤ 129) && decide (n % 2 = 1))) := by
    by_cases h : 3 ≤ n
    · rw [if_pos (by omega), decide_eq_true h, Bool.true_and]
      by_cases h' : n ≤ 129
      · rw [if_pos (by omega), decide_eq_true h', Bool.true_and]
        by_cases h'' : n % 2 = 1
        · rw [decide_eq_true h'', beq_iff_eq]; omega
        · rw [decide_eq_false h'', beq_eq_false_iff_ne]; omega
      · rw [if_neg (by omega), decide_eq_false h', Bool.false_and]
    · rw [if_neg (by omega), decide_eq_false h, Bool.false_and]
  have t : ∀ l : List UInt8, ((v.toList == l) = true) = (v.data.toList = l) := fun l => by rw [Lib.toList_data, beq_iff_eq]
  simp only [t]
  rw [h0, h1, h3, r, q]
  generalize v.data.toList = u
  unfold countRef vSet vTrack vModel vRow vStart vTracks vCounts vTime vCount vScan
  by_cases a1 : u = [115, 101, 116]
  · rw [if_pos (Or.inl a1), if_pos a1]
  rw [if_neg a1]
  by_cases a2 : u = [116, 114, 97, 99, 107]
  · rw [if_pos (Or.inr a2), if_pos a2]
  rw [if_neg (fun h => h.elim a1 a2), if_neg a2]
  by_cases a3 : u = [109, 111, 100, 101, 108]
  · rw [if_pos a3, if_pos a3]
  rw [if_neg a3, if_neg a3]
  by_cases a4 : u = [114, 111, 119]
  · rw [if_pos a4, if_pos a4]
  rw [if_neg a4, if_neg a4]
  by_cases b1 : u = [115, 116, 97, 114, 116]
  · rw [if_pos (Or.inl b1), if_pos b1]
  rw [if_neg b1]
  by_cases b2 : u = [116, 114, 97, 99, 107, 115]
  · rw [if_pos (Or.inr (Or.inl b2)), if_pos b2]
  rw [if_neg b2]
  by_cases b3 : u = [99, 111, 117, 110, 116, 115]
  · rw [if_pos (Or.inr (Or.inr (Or.inl b3))), if_pos b3]
  rw [if_neg b3]
  by_cases b4 : u = [116, 105, 109, 101]
  · rw [if_pos (Or.inr (Or.inr (Or.inr (Or.inl b4)))), if_pos b4]
  rw [if_neg b4]
  by_cases b5 : u = [99, 111, 117, 110, 116]
  · rw [if_pos (Or.inr (Or.inr (Or.inr (Or.inr b5)))), if_pos b5]
  rw [if_neg b5, if_neg]
  rintro (h | h | h | h | h)
  · exact b1 h
  · exact b2 h
  · exact b3 h
  · exact b4 h
  · exact b5 h
/-- What holds between two rounds of Read's numbers. -/
def RI (w : World) (v : ByteArray) (vW : Value) (lst : List ByteArray) (k : Nat) (wr : World) : Prop := ∃ (vN : Value) (nsk : List Int), wr.heap[w.heap.size]? = some (.cells #[.int .i64 0, .string ⟨#[]⟩, .slice none 0 0, .slice none 0 0, .slice none 0 0] 38 (0, 0)) ∧
      wr.heap[w.heap.size + 1]? = some (.cells #[.int .i64 0, .string v, vW, vN, .slice none 0 0] 38 (0, 0)) ∧ (Kd.int .i64).R 2 wr w.heap.size (fun j => w.heap.size + 2 ≤ j) vN nsk ∧ Below w.heap.size w wr ∧ w.heap.size + 2 ≤ wr.heap.size ∧
      nsk.length = k ∧ Aside0 (numsOf ((lst.take k).map (·.data.toList)) = some nsk)
/-- A leaf of Read's walk. -/
theorem read_leaf {w wr : World} {A : Option Addr} {all : List ByteArray} {v : ByteArray} {A1 A2 : Option Addr} {n1 c1 c2 n : Nat} {ws : List B} {nsk : List Int} {x : Bool} {o : Option Cmd} {z0 z1 z2 z3 z4 : Value}
    (hbl : Below w.heap.size w wr) (hz : w.heap.size + 2 ≤ wr.heap.size) (hD : wr.heap[w.heap.size]? = some (.cells #[z0, z1, z2, z3, z4] 38 (0, 0)))
    (hR : (Kd.int .i64).R 2 wr w.heap.size (fun j => w.heap.size + 2 ≤ j) (.slice A2 nsk.length c2) nsk) (hW : Win A all A1 n1 c1 (ws.map mk))
    (ho : o = if countRef v.data.toList n = true then some ⟨0, v.data.toList, ws, nsk, []⟩ else none) (hx : x = countRef v.data.toList n) :
    ReadPost w A all o (.returned (.tuple #[.agg #[.int .i64 0, .string v, .slice A1 n1 c1, .slice A2 nsk.length c2, .slice none 0 0], .bool x])) (set5 wr w.heap.size (.int .i64 0) (.string v) (.slice A1 n1 c1) (.slice A2 nsk.length c2) (.slice none 0 0)) := by
  have hg := set5_grown wr w.heap.size (.int .i64 0) (.string v) (.slice A1 n1 c1) (.slice A2 nsk.length c2) (.slice none 0 0)
  refine ⟨hbl.grown hg (by omega) (fun k e => by cases e; exact Nat.le_refl _), ?_⟩
  rw [ho, ← hx]
  cases x with
  | false => exact ⟨_, _, _, _, _, _, _, _, _, _, _, rfl⟩
  | true => exact ⟨A1, n1, c1, A2, _, c2, none, 0, 0, by rw [mk_of], hW, Kd.R_mono (R_past hR hD (by simp [Kd.int, Kd.scalar]) hg) (fun _ _ => trivial), Kd.R_nil _ _ _ _ _⟩

set_option maxRecDepth 100000 in
set_option maxHeartbeats 1000000 in
/-- Neither names nor bytes; all are numbers. -/
theorem read_plain (b off cap : Nat) (v : ByteArray) (rs : List ByteArray) (w : World) (hC : Kd.string.C w (some ⟨b, off, none⟩) (v :: rs).length (v :: rs)) (hcap : (v :: rs).length ≤ cap)
    (h1 : namedRef v.data.toList = false) (h2 : bytesRef v.data.toList = false) (hl : rs.length < 4294967295) :
    Calls Tryz.prog 24 #[.slice (some ⟨b, off, none⟩) (v :: rs).length cap] w (ReadPost w (some ⟨b, off, none⟩) (v :: rs) (readRef (v.data.toList :: rs.map (·.data.toList)))) := by
  obtain ⟨ad, e0, c0⟩ := Kd.at_string hC 0 (by omega) (by simp)
  cases e0
  have hlt : b < w.heap.size := World.block_lt_of_cell? w _ c0
  have c0' : w.cell? ⟨b, off, none⟩ = some (.string v) := c0
  obtain ⟨A', hcut, hcutC, hcutB⟩ := cutS' (v :: rs) b off cap 1 (by simp) hcap
  have hcut1 : ∀ W : World, (Instr.slice 33 (.slice (some ⟨b, off, none⟩) (v :: rs).length cap) (some (.int .i64 1)) none none).run Tryz.prog W = .ok (.slice A' ((v :: rs).length - 1) (cap - 1)) W := hcut
  have hlr : (v :: rs).length - 1 = rs.length := by simp
  rw [hlr] at hcut1
  have hl1 : (0 : Int) < ((v :: rs).length : Int) := by simp
  have hl2 : (1 : Int) ≤ ((v :: rs).length : Int) := by simp; omega
  have hvt := Lib.toList_data v
  have HNA := Lib.hid h1
  have HBY := Lib.hid h2
  simp only [namedRef, bytesRef, Bool.or_eq_false_iff, decide_eq_false_iff_not] at h1 h2
  have t_set : (v.toList == ([115, 101, 116] : List UInt8)) = false := by rw [beq_eq_false_iff_ne, hvt]; exact h1.1
  have t_count : (v.toList == ([99, 111, 117, 110, 116] : List UInt8)) = false := by rw [beq_eq_false_iff_ne, hvt]; exact h1.2
  have t_raw : (v.toList == ([114, 97, 119] : List UInt8)) = false := by rw [beq_eq_false_iff_ne, hvt]; exact h2.1
  have t_config : (v.toList == ([99, 111, 110, 102, 105, 103] : List UInt8)) = false := by rw [beq_eq_false_iff_ne, hvt]; exact h2.2
  have HC := Lib.hid hC
  have hrc : ∀ W : World, Kd.string.C W (some ⟨b, off, none⟩) (v :: rs).length (v :: rs) → Kd.string.C W A' rs.length rs := hcutC
  have HRC := Lib.hid hrc
  have HVT := Lib.hid hvt
  have H1 := Lib.hid h1
  have H2 := Lib.hid h2
  generalize (v :: rs).length = len at hcut1 hl1 hl2 ⊢
  clear hrc c0 hC hcut hcutC hcutB hlr h1 h2 hvt
  go_enter Tryz.func24, Tryz.ntmps24
  go_wp2
  obtain ⟨W0, hW0⟩ : ∃ W0, (w.alloc (.cells #[.int .i64 0, .string ⟨#[]⟩, .slice none 0 0, .slice none 0 0, .slice none 0 0] 38)).alloc (.cells #[.int .i64 0, .string v, .slice none 0 0, .slice none 0 0, .slice none 0 0] 38) = W0 := ⟨_, rfl⟩
  have q0 : W0.heap[w.heap.size]? = some (.cells #[.int .i64 0, .string ⟨#[]⟩, .slice none 0 0, .slice none 0 0, .slice none 0 0] 38 (0, 0)) := by
    rw [← hW0]; exact up _ (fresh w _ rfl)
  have q1 : W0.heap[w.heap.size + 1]? = some (.cells #[.int .i64 0, .string v, .slice none 0 0, .slice none 0 0, .slice none 0 0] 38 (0, 0)) := by
    rw [← hW0]; exact fresh _ _ (by simp)
  have qb : Below w.heap.size w W0 := by rw [← hW0]; exact ((Below.refl _ w).alloc (Nat.le_refl _) _).alloc (by simp) _
  have qs : w.heap.size + 2 ≤ W0.heap.size := by rw [← hW0]; simp
  rw [hW0]
  have Q0 := Lib.hid q0
  have Q1 := Lib.hid q1
  have QB := Lib.hid qb
  clear q0 q1 qb hW0
  go_loopw [10] (fun i wr => ∃ (k : Nat), k ≤ rs.length ∧ i = .int .i64 k ∧ RI w v (.slice none 0 0) rs k wr) (fun i _ => rs.length - (intOf i).toNat)
  case atStart => exact ⟨0, Nat.zero_le _, rfl, _, [], Q0.out, Q1.out, Kd.R_nil _ _ _ _ _, QB.out, by omega, rfl, ⟨rfl⟩⟩
  case round =>
    obtain ⟨k, hk, rfl, vN, nsk, hb0, hb1, hR, hbl, hsz2, hnk, HN⟩ := hrel
    by_cases hkn : k < rs.length
    · have hCr : Kd.string.C wr A' rs.length rs := HRC.out wr (Kd.C_below HC.out hbl)
      obtain ⟨ad, hAe, hcell⟩ := Kd.at_string hCr k (by omega) (by omega)
      subst hAe
      rw [Int.toNat_natCast] at hcell
      have htk : (rs.take (k + 1)).map (·.data.toList) = (rs.take k).map (·.data.toList) ++ [(rdOf ByteArray.empty rs k).data.toList] := by
        rw [List.take_succ_eq_append_getElem (by omega), List.map_append]
        unfold rdOf
        rw [Int.toNat_natCast, List.getD_eq_getElem?_getD, List.getElem?_eq_getElem (by omega), Option.getD_some]; rfl
      have hx : rdOf ByteArray.empty rs k ∈ rs := by
        unfold rdOf
        rw [Int.toNat_natCast, List.getD_eq_getElem?_getD, List.getElem?_eq_getElem (by omega), Option.getD_some]
        exact List.getElem_mem _
      have HT := Lib.hid htk
      have HX := Lib.hid hx
      generalize rdOf ByteArray.empty rs k = x at *
      have hcl := ref_number x wr
      have HR := Lib.hid hR
      have HB0 := Lib.hid hb0
      have HB1 := Lib.hid hb1
      have HBL := Lib.hid hbl
      have HNK := Lib.hid hnk
      have hkn2 : (k : Int) < (rs.length : Int) := by omega
      have hown : ∀ j, vN.ownBlock = some j → w.heap.size + 2 ≤ j := hR.1
      have HOW := Lib.hid hown
      have hlim : (nsk.length + 1) * 8 ≤ 140737488355328 := by omega
      have HLI := Lib.hid hlim
      clear htk hx hCr hR hb0 hb1 hbl hnk hown hlim
      rcases hno : numOf x.data.toList with _ | y
      · rw [hno] at hcl
        have HNO := Lib.hid hno
        have HCL := Lib.hid hcl
        clear hcl hno
        go_wp2_with (go_at_call 43; refine HCL.out.mono ?_; rintro e w1 ⟨rfl, hd1⟩; dsimp only [ans]; have hk0 := (hd1.block _ (by omega)).trans HB0.out; have hk1 := (hd1.block _ (by omega)).trans HB1.out; obtain ⟨A2, c2, rfl⟩ := Kd.R_slice HR.out; obtain ⟨⟨k0, k1, k2, k3, k4⟩, _⟩ := cells38 hk1; obtain ⟨⟨d0, d1, d2, d3, d4⟩, ⟨e0, e1, e2, e3, e4⟩⟩ := cells38 hk0; have HD1 := Lib.hid hd1; have HK0 := Lib.hid hk0; clear hd1 hk0 hk1)
        refine bodyPost_ret (results24 _ _ w.heap.size _ _ _ _ _ _ rfl rfl (set5_heap' HK0.out)) rfl ?_
        have e : readRef (v.data.toList :: rs.map (·.data.toList)) = none := by
          rw [readRef_cons, if_neg (by rw [HNA.out]; simp)]
          unfold restRef
          rw [if_neg (by rw [HBY.out]; simp), numsOf_mem HNO.out HX.out]
        rw [e]
        have hb := HBL.out.trans (HD1.out.mono (by omega))
        exact ⟨hb.grown (set5_grown _ w.heap.size _ _ _ _ _) hb.size (fun k e => by cases e; exact Nat.le_refl _), _, _, _, _, _, _, _, _, _, _, _, rfl⟩
      · rw [hno] at hcl
        have HNO := Lib.hid hno
        have HCL := Lib.hid hcl
        clear hcl hno
        go_wp2_with (first
          | (go_at_call 43; refine HCL.out.mono ?_; rintro e w1 ⟨rfl, hd1⟩; dsimp only [ans]; have hk0 := (hd1.block _ (by omega)).trans HB0.out; have hk1 := (hd1.block _ (by omega)).trans HB1.out; have k3 : w1.cell? ⟨w.heap.size + 1, 3, none⟩ = some vN := blk_cell hk1 3; have HD1 := Lib.hid hd1; have HK0 := Lib.hid hk0; have HK1 := Lib.hid hk1; clear hd1 hk0 hk1)
          | (at_builtin; refine Kd.R_append (Kd.int .i64) (w0 := w1) w.heap.size rfl (.tmp 126) (.tmp 128) 34 2 (.int .i64 0) 8 rfl Tryz.underlying34 info2 rfl (by decide) (by omega) vN nsk y [.int .i64 y] (fun j => w.heap.size + 2 ≤ j) (fun _ => False) rfl rfl ?aP (fun _ hk => hk.elim) ?aF ?aO ?aB ?aS ?aL ?_; (case aP => exact rfl); (case aF => (intro j hj; have := HD1.out.size; omega)); (case aO => exact Kd.R_below HR.out HD1.out); (case aB => exact Below.refl _ _); (case aS => (have := HD1.out.size; omega)); (case aL => exact HLI.out); intro v1 w2 ho hb2 hg2 hat; obtain ⟨A1, q1, rfl⟩ := Kd.R_slice ho; have hne := fun (g : Nat) (hg : g < w.heap.size + 2) (e : some g = vN.ownBlock) => (by have := HOW.out g e.symm; omega : False); have hk0 := blk_grown HK0.out hg2 (hne _ (by omega)); have hk1 := blk_grown HK1.out hg2 (hne _ (by omega)); have c3 : w2.cell? ⟨w.heap.size + 1, 3, none⟩ = some vN := blk_cell hk1 3; have f3 := blk_frozen hk1 3; have HK0b := Lib.hid hk0; have HK1b := Lib.hid hk1; have HO := Lib.hid ho; have HG2 := Lib.hid hg2; clear hk0 hk1 ho hg2 hat hb2 hne))
        go_roundw
        case rel =>
          refine ⟨k + 1, by omega, by go_num, _, nsk ++ [y], blk_far HK0b.out (by simp) _, blk_set HK1b.out 3 _, ?_, ?_, ?_, by rw [List.length_append, HNK.out]; rfl, ⟨?_⟩⟩
          · have h := Kd.R_set HO.out HK1b.out (by simp [Kd.int, Kd.scalar]) 3 (.slice A1 (nsk ++ [y]).length q1)
            simpa using h
          · have hb := HBL.out.trans (HD1.out.mono (by omega))
            exact (hb.grown HG2.out hb.size (fun j e => by have := HOW.out j e; omega)).setCell (by simp) _
          · have := HD1.out.size; have := HG2.out.size; simp; omega
          · rw [HT.out, numsOf_snoc, HN.out, HNO.out]; rfl
        case measure => simp [intOf]; omega
    · obtain rfl : k = rs.length := by omega
      have hnum := HN.out
      rw [List.take_length] at hnum
      have HNU := Lib.hid hnum
      obtain ⟨A2, c2, rfl⟩ := Kd.R_slice hR
      obtain ⟨⟨k0, k1, k2, k3, k4⟩, _⟩ := cells38 hb1
      obtain ⟨⟨d0, d1, d2, d3, d4⟩, ⟨e0, e1, e2, e3, e4⟩⟩ := cells38 hb0
      have cv : wr.cell? ⟨b, off, none⟩ = some (.string v) := (hbl.cell (p := ⟨b, off, none⟩) hlt).trans c0'
      have HR := Lib.hid hR
      have HB0 := Lib.hid hb0
      have HBL := Lib.hid hbl
      clear hR hb0 hb1 hbl hnum HN hnk
      have hro : readRef (v.data.toList :: rs.map (·.data.toList)) = if countRef v.data.toList rs.length = true then some ⟨0, v.data.toList, [], nsk, []⟩ else none := by
        rw [readRef_cons, if_neg (by rw [HNA.out]; simp)]
        unfold restRef
        rw [if_neg (by rw [HBY.out]; simp), HNU.out, List.length_map]
      have HRO := Lib.hid hro
      clear hro
      rcases t_track : (v.toList == ([116, 114, 97, 99, 107] : List UInt8)) with _ | _
      rotate_left
      · have hx : (((rs.length : Nat) : Int) == 1) = countRef v.data.toList rs.length := by
          rw [countRef_tests]
          simp only [t_set, t_track, Bool.false_eq_true, if_true, if_false]
        have HX := Lib.hid hx
        clear hx
        go_wp2
        refine bodyPost_ret (results24 _ _ w.heap.size _ _ _ _ _ _ rfl rfl (set5_heap' HB0.out)) rfl ?_
        exact read_leaf HBL.out hsz2 HB0.out HR.out (win_nil _ _) HRO.out HX.out
      rcases t_model : (v.toList == ([109, 111, 100, 101, 108] : List UInt8)) with _ | _
      rotate_left
      · have hx : (((rs.length : Nat) : Int) == 3) = countRef v.data.toList rs.length := by
          rw [countRef_tests]
          simp only [t_set, t_track, t_model, Bool.false_eq_true, if_true, if_false]
        have HX := Lib.hid hx
        clear hx
        go_wp2
        refine bodyPost_ret (results24 _ _ w.heap.size _ _ _ _ _ _ rfl rfl (set5_heap' HB0.out)) rfl ?_
        exact read_leaf HBL.out hsz2 HB0.out HR.out (win_nil _ _) HRO.out HX.out
      rcases t_row : (v.toList == ([114, 111, 119] : List UInt8)) with _ | _
      rotate_left
      · by_cases p1 : (1 : Int) ≤ ((rs.length : Nat) : Int)
        · have hx : (decide (((rs.length : Nat) : Int) ≤ 4)) = countRef v.data.toList rs.length := by
            rw [countRef_tests]
            simp only [t_set, t_track, t_model, t_row, if_pos p1, Bool.false_eq_true, if_true, if_false]
          have HX := Lib.hid hx
          clear hx
          go_wp2
          refine bodyPost_ret (results24 _ _ w.heap.size _ _ _ _ _ _ rfl rfl (set5_heap' HB0.out)) rfl ?_
          exact read_leaf HBL.out hsz2 HB0.out HR.out (win_nil _ _) HRO.out HX.out
        · have hx : false = countRef v.data.toList rs.length := by
            rw [countRef_tests]
            simp only [t_set, t_track, t_model, t_row, if_neg p1, Bool.false_eq_true, if_true, if_false]
          have HX := Lib.hid hx
          clear hx
          go_wp2
          refine bodyPost_ret (results24 _ _ w.heap.size _ _ _ _ _ _ rfl rfl (set5_heap' HB0.out)) rfl ?_
          exact read_leaf HBL.out hsz2 HB0.out HR.out (win_nil _ _) HRO.out HX.out
      rcases t_start : (v.toList == ([115, 116, 97, 114, 116] : List UInt8)) with _ | _
      rotate_left
      · have hx : (((rs.length : Nat) : Int) == 0) = countRef v.data.toList rs.length := by
          rw [countRef_tests]
          simp only [t_set, t_track, t_model, t_row, t_start, Bool.false_eq_true, if_true, if_false]
        have HX := Lib.hid hx
        clear hx
        go_wp2
        refine bodyPost_ret (results24 _ _ w.heap.size _ _ _ _ _ _ rfl rfl (set5_heap' HB0.out)) rfl ?_
        exact read_leaf HBL.out hsz2 HB0.out HR.out (win_nil _ _) HRO.out HX.out
      rcases t_tracks : (v.toList == ([116, 114, 97, 99, 107, 115] : List UInt8)) with _ | _
      rotate_left
      · have hx : (((rs.length : Nat) : Int) == 0) = countRef v.data.toList rs.length := by
          rw [countRef_tests]
          simp only [t_set, t_track, t_model, t_row, t_start, t_tracks, Bool.false_eq_true, if_true, if_false]
        have HX := Lib.hid hx
        clear hx
        go_wp2
        refine bodyPost_ret (results24 _ _ w.heap.size _ _ _ _ _ _ rfl rfl (set5_heap' HB0.out)) rfl ?_
        exact read_leaf HBL.out hsz2 HB0.out HR.out (win_nil _ _) HRO.out HX.out
      rcases t_counts : (v.toList == ([99, 111, 117, 110, 116, 115] : List UInt8)) with _ | _
      rotate_left
      · have hx : (((rs.length : Nat) : Int) == 0) = countRef v.data.toList rs.length := by
          rw [countRef_tests]
          simp only [t_set, t_track, t_model, t_row, t_start, t_tracks, t_counts, Bool.false_eq_true, if_true, if_false]
        have HX := Lib.hid hx
        clear hx
        go_wp2
        refine bodyPost_ret (results24 _ _ w.heap.size _ _ _ _ _ _ rfl rfl (set5_heap' HB0.out)) rfl ?_
        exact read_leaf HBL.out hsz2 HB0.out HR.out (win_nil _ _) HRO.out HX.out
      rcases t_time : (v.toList == ([116, 105, 109, 101] : List UInt8)) with _ | _
      rotate_left
      · have hx : (((rs.length : Nat) : Int) == 0) = countRef v.data.toList rs.length := by
          rw [countRef_tests]
          simp only [t_set, t_track, t_model, t_row, t_start, t_tracks, t_counts, t_time, Bool.false_eq_true, if_true, if_false]
        have HX := Lib.hid hx
        clear hx
        go_wp2
        refine bodyPost_ret (results24 _ _ w.heap.size _ _ _ _ _ _ rfl rfl (set5_heap' HB0.out)) rfl ?_
        exact read_leaf HBL.out hsz2 HB0.out HR.out (win_nil _ _) HRO.out HX.out
      rcases t_scan : (v.toList == ([115, 99, 97, 110] : List UInt8)) with _ | _
      rotate_left
      · by_cases p1 : (3 : Int) ≤ ((rs.length : Nat) : Int)
        · by_cases p2 : ((rs.length : Nat) : Int) ≤ 129
          · have hx : (((rs.length : Nat) : Int) % 2 == 1) = countRef v.data.toList rs.length := by
              rw [countRef_tests]
              simp only [t_set, t_track, t_model, t_row, t_start, t_tracks, t_counts, t_time, t_count, t_scan, if_pos p1, if_pos p2, Bool.false_eq_true, if_true, if_false]
            have HX := Lib.hid hx
            clear hx
            go_wp2
            refine bodyPost_ret (results24 _ _ w.heap.size _ _ _ _ _ _ rfl rfl (set5_heap' HB0.out)) rfl ?_
            exact read_leaf HBL.out hsz2 HB0.out HR.out (win_nil _ _) HRO.out HX.out
          · have hx : false = countRef v.data.toList rs.length := by
              rw [countRef_tests]
              simp only [t_set, t_track, t_model, t_row, t_start, t_tracks, t_counts, t_time, t_count, t_scan, if_pos p1, if_neg p2, Bool.false_eq_true, if_true, if_false]
            have HX := Lib.hid hx
            clear hx
            go_wp2
            refine bodyPost_ret (results24 _ _ w.heap.size _ _ _ _ _ _ rfl rfl (set5_heap' HB0.out)) rfl ?_
            exact read_leaf HBL.out hsz2 HB0.out HR.out (win_nil _ _) HRO.out HX.out
        · have hx : false = countRef v.data.toList rs.length := by
            rw [countRef_tests]
            simp only [t_set, t_track, t_model, t_row, t_start, t_tracks, t_counts, t_time, t_count, t_scan, if_neg p1, Bool.false_eq_true, if_true, if_false]
          have HX := Lib.hid hx
          clear hx
          go_wp2
          refine bodyPost_ret (results24 _ _ w.heap.size _ _ _ _ _ _ rfl rfl (set5_heap' HB0.out)) rfl ?_
          exact read_leaf HBL.out hsz2 HB0.out HR.out (win_nil _ _) HRO.out HX.out
      have hx : false = countRef v.data.toList rs.length := by
        rw [countRef_tests]
        simp only [t_set, t_track, t_model, t_row, t_start, t_tracks, t_counts, t_time, t_count, t_scan, Bool.false_eq_true, if_false]
      have HX := Lib.hid hx
      clear hx
      go_wp2
      refine bodyPost_ret (results24 _ _ w.heap.size _ _ _ _ _ _ rfl rfl (set5_heap' HB0.out)) rfl ?_
      exact read_leaf HBL.out hsz2 HB0.out HR.out (win_nil _ _) HRO.out HX.out
end Go.Proofs.YtfiacgkhkonilaaGreatDoor

/- slices.Equal at three types, in plain words. -/
namespace Go.Proofs.YtfiacgkhkonilaaGreatDoor
open Go Go.RowKit Go.Lib Go.Proofs.YtfiacgkhkonilaaGreatDoorW.PrintWords Go.Proofs.YtfiacgkhkonilaaGreatDoorW.PrintLast Go.Proofs.YtfiacgkhkonilaaGreatDoorW.PrintMore Go.Proofs.YtfiacgkhkonilaaGreatDoor.PText

theorem drop_getD {α : Type} (d : α) (l : List α) (k : Nat) (h : k < l.length) : l.drop k = l.getD k d :: l.drop (k + 1) := by
  rw [List.drop_eq_getElem_cons h, List.getD_eq_getElem?_getD, List.getElem?_eq_getElem h, Option.getD_some]
theorem eqS_loop (x y : List ByteArray) (hl : x.length = y.length) (hm : x.length < 9223372036854775807) : ∀ d k, k + d = x.length → slices_Equal_string_string.l0 (d + 1) x y (x.length : Int) (k : Int) = some (decide (x.drop k = y.drop k))
  | 0, k, h => by
    unfold slices_Equal_string_string.l0
    rw [if_neg (by omega), List.drop_eq_nil_of_le (by omega), List.drop_eq_nil_of_le (by omega)]
    simp
  | d + 1, k, h => by
    unfold slices_Equal_string_string.l0
    rw [if_pos (by omega), if_pos (by omega), if_pos (by omega), if_pos (by omega), drop_getD ByteArray.empty x k (by omega), drop_getD ByteArray.empty y k (by omega), toList_data, toList_data]
    unfold rdOf
    rw [Int.toNat_natCast]
    by_cases e : x.getD k ByteArray.empty = y.getD k ByteArray.empty
    · rw [if_pos (by rw [e]), wrap_succ k (by omega), eqS_loop x y hl hm d (k + 1) (by omega), e]
      simp
    · rw [if_neg (fun h2 => e (by rw [of_mk h2, mk_of]))]
      rw [decide_eq_false (fun h2 => e (List.cons.inj h2).1)]
theorem eqS (x y : List ByteArray) (hm : y.length < 9223372036854775807) : slices_Equal_string_string.f (x.length + 1) x y = some (decide (x = y)) := by
  unfold slices_Equal_string_string.f
  by_cases h : x.length = y.length
  · rw [if_pos (by omega)]
    have := eqS_loop x y h (by omega) x.length 0 (by omega)
    rw [List.drop_zero, List.drop_zero] at this
    exact this
  · rw [if_neg (by omega), decide_eq_false (fun e => h (by rw [e]))]
theorem eqI_loop (x y : List Int) (hl : x.length = y.length) (hm : x.length < 9223372036854775807) : ∀ d k, k + d = x.length → slices_Equal_int64_int64.l0 (d + 1) x y (x.length : Int) (k : Int) = some (decide (x.drop k = y.drop k))
  | 0, k, h => by
    unfold slices_Equal_int64_int64.l0
    rw [if_neg (by omega), List.drop_eq_nil_of_le (by omega), List.drop_eq_nil_of_le (by omega)]
    simp
  | d + 1, k, h => by
    unfold slices_Equal_int64_int64.l0
    rw [if_pos (by omega), if_pos (by omega), if_pos (by omega), if_pos (by omega), drop_getD 0 x k (by omega), drop_getD 0 y k (by omega)]
    unfold rd
    rw [Int.toNat_natCast]
    by_cases e : x.getD k 0 = y.getD k 0
    · rw [if_pos e, wrap_succ k (by omega), eqI_loop x y hl hm d (k + 1) (by omega), e]
      simp
    · rw [if_neg e]
      rw [decide_eq_false (fun h2 => e (List.cons.inj h2).1)]
theorem eqI (x y : List Int) (hm : y.length < 9223372036854775807) : slices_Equal_int64_int64.f (x.length + 1) x y = some (decide (x = y)) := by
  unfold slices_Equal_int64_int64.f
  by_cases h : x.length = y.length
  · rw [if_pos (by omega)]
    have := eqI_loop x y h (by omega) x.length 0 (by omega)
    rw [List.drop_zero, List.drop_zero] at this
    exact this
  · rw [if_neg (by omega), decide_eq_false (fun e => h (by rw [e]))]
theorem eqB_loop (x y : List Int) (hl : x.length = y.length) (hm : x.length < 9223372036854775807) : ∀ d k, k + d = x.length → slices_Equal_byte_byte.l0 (d + 1) x y (x.length : Int) (k : Int) = some (decide (x.drop k = y.drop k))
  | 0, k, h => by
    unfold slices_Equal_byte_byte.l0
    rw [if_neg (by omega), List.drop_eq_nil_of_le (by omega), List.drop_eq_nil_of_le (by omega)]
    simp
  | d + 1, k, h => by
    unfold slices_Equal_byte_byte.l0
    rw [if_pos (by omega), if_pos (by omega), if_pos (by omega), if_pos (by omega), drop_getD 0 x k (by omega), drop_getD 0 y k (by omega)]
    unfold rd
    rw [Int.toNat_natCast]
    by_cases e : x.getD k 0 = y.getD k 0
    · rw [if_pos e, wrap_succ k (by omega), eqB_loop x y hl hm d (k + 1) (by omega), e]
      simp
    · rw [if_neg e]
      rw [decide_eq_false (fun h2 => e (List.cons.inj h2).1)]
theorem eqB (x y : List Int) (hm : y.length < 9223372036854775807) : slices_Equal_byte_byte.f (x.length + 1) x y = some (decide (x = y)) := by
  unfold slices_Equal_byte_byte.f
  by_cases h : x.length = y.length
  · rw [if_pos (by omega)]
    have := eqB_loop x y h (by omega) x.length 0 (by omega)
    rw [List.drop_zero, List.drop_zero] at this
    exact this
  · rw [if_neg (by omega), decide_eq_false (fun e => h (by rw [e]))]

theorem equal_strings (A0 A1 : Option Addr) (c0 c1 : Nat) (x y : List ByteArray) (w : World) (h0 : Kd.string.C w A0 x.length x) (k0 : x.length ≤ c0) (h1 : Kd.string.C w A1 y.length y) (k1 : y.length ≤ c1) (hm : y.length < 9223372036854775807) :
    Calls Tryz.prog 28 #[.slice A0 x.length c0, .slice A1 y.length c1] w fun e w' => e = .returned (.bool (decide (x = y))) ∧ Below w.heap.size w w' :=
  (slices_Equal_string_string.calls _ A0 c0 x A1 c1 y _ w h0 k0 h1 k1 (eqS x y hm)).mono fun _ _ ⟨h, hd⟩ => ⟨h, drawn_below hd⟩
theorem equal_ints (A0 A1 : Option Addr) (c0 c1 : Nat) (x y : List Int) (w : World) (h0 : (Kd.int .i64).C w A0 x.length x) (k0 : x.length ≤ c0) (h1 : (Kd.int .i64).C w A1 y.length y) (k1 : y.length ≤ c1) (hm : y.length < 9223372036854775807) :
    Calls Tryz.prog 29 #[.slice A0 x.length c0, .slice A1 y.length c1] w fun e w' => e = .returned (.bool (decide (x = y))) ∧ Below w.heap.size w w' :=
  (slices_Equal_int64_int64.calls _ A0 c0 x A1 c1 y _ w h0 k0 h1 k1 (eqI x y hm)).mono fun _ _ ⟨h, hd⟩ => ⟨h, drawn_below hd⟩
theorem equal_bytes (A0 A1 : Option Addr) (c0 c1 : Nat) (x y : List Int) (w : World) (h0 : (Kd.int .u8).C w A0 x.length x) (k0 : x.length ≤ c0) (h1 : (Kd.int .u8).C w A1 y.length y) (k1 : y.length ≤ c1) (hm : y.length < 9223372036854775807) :
    Calls Tryz.prog 30 #[.slice A0 x.length c0, .slice A1 y.length c1] w fun e w' => e = .returned (.bool (decide (x = y))) ∧ Below w.heap.size w w' :=
  (slices_Equal_byte_byte.calls _ A0 c0 x A1 c1 y _ w h0 k0 h1 k1 (eqB x y hm)).mono fun _ _ ⟨h, hd⟩ => ⟨h, drawn_below hd⟩
end Go.Proofs.YtfiacgkhkonilaaGreatDoor
