/- The common part of the laws on queries, text 1 of 7: contracts of the functions that they reach, and the plain mathematics. -/
import Derived.Test.YtijaoedlhmdpnaaDoorRows
import Derived.WalkKit
import Derived.WalkSpells
import Derived.WalkLawsBesides
import Derived.Deep.RegionHeld3
import Derived.Deep.QuietTactic
import Derived.BigQuiet
import Derived.Lib.Hide
import Derived.Test.YtijaoedlhmdpnaaDoorPTopQueriesKeptx0
import Derived.Deep.RegionLaw
import Derived.Test.YtijaoedlhmdpnaaDoorPTopQueriesKeptx2
import Derived.RangeFuncNested
import Derived.RangeFuncBound
import Derived.RangeFuncCalls
import Derived.RangeFuncLeaves
import Derived.Shelf.Abstract
import Derived.Shelf.RegionOpen
import Derived.OwnWalkIn
import Derived.TacticsInMore
import Derived.LoopNIn
import Derived.LoopIn
import Derived.Shelf.Strconv.Atoi
import Derived.Shelf.LaysM
import Derived.Shelf.Strconv.Itoa3
import Derived.Shelf.Strings.Search3
import Derived.Shelf.Bits.Mul64
import Derived.Shelf.Slices.Turned
import Derived.Ground.SlgnProg
import Derived.Shelf.SlicesE.Clone
import Derived.Test.YtijaoedlhmdpnaaDoorProg
import Derived.BigRegion
import Derived.StillTailTactics
import Derived.OrdersIn
set_option linter.unusedVariables false
set_option linter.unusedSimpArgs false
/- The trees of the law and of revopt as they lie in memory, and the small facts that every walk uses. -/
namespace Go.Proofs.YtijaoedlhmdpnaaDoor
open Go.RowKit

/-- A tree of the law (wRev) or of revopt (tree): a kind, a number, two operands. -/
inductive RT where
  | nil
  | node (k n : Int) (l r : RT)

/-- The tree t lies in w at the pointer v, every block of it from base on; ty is the struct's type. -/
def Tr (ty : TypeId) (w : World) (base : Nat) : RT → Value → Prop
  | .nil, v => v = .pointer none
  | .node k n l r, v => ∃ b vl vr, v = .pointer (some ⟨b, 0, none⟩) ∧ base ≤ b ∧ w.heap[b]? = some (.cells #[.int .i64 k, .int .i64 n, vl, vr] ty (0, 0)) ∧ Tr ty w base l vl ∧ Tr ty w base r vr

theorem Tr.nil {ty : TypeId} {w : World} {base : Nat} : Tr ty w base .nil (.pointer none) := rfl
theorem Tr.below {ty : TypeId} {w w' : World} {base : Nat} : ∀ {t : RT} {v : Value}, Tr ty w base t v → Below w.heap.size w w' → Tr ty w' base t v
  | .nil, _, h, _ => h
  | .node _ _ _ _, _, ⟨b, vl, vr, hv, hb, hc, hl, hr⟩, hw => ⟨b, vl, vr, hv, hb, (hw.block b (Array.getElem?_eq_some_iff.1 hc).1).trans hc, hl.below hw, hr.below hw⟩

theorem Tr.lower {ty : TypeId} {w : World} {base base' : Nat} (hb : base' ≤ base) : ∀ {t : RT} {v : Value}, Tr ty w base t v → Tr ty w base' t v
  | .nil, _, h => h
  | .node _ _ _ _, _, ⟨b, vl, vr, hv, hb', hc, hl, hr⟩ => ⟨b, vl, vr, hv, Nat.le_trans hb hb', hc, hl.lower hb, hr.lower hb⟩

theorem Tr.pointer {ty : TypeId} {w : World} {base : Nat} {t : RT} {v : Value} (h : Tr ty w base t v) : ∃ p, v = .pointer p := by
  cases t with
  | nil => exact ⟨none, h⟩
  | node k n l r => obtain ⟨b, vl, vr, hv, _⟩ := h; exact ⟨_, hv⟩

theorem ret_int {k : IntKind} {a b : Int} (h : a = b) : Ending.returned (.int k a) = .returned (.int k b) := by rw [h]

/-- The number that wPick gives. -/
def pick (x n : Int) : Int := (IntKind.u64.wrap x) % n
theorem pick_range (x n : Int) (hn : 0 < n) : 0 ≤ pick x n ∧ pick x n < n := ⟨Int.emod_nonneg _ (by omega), Int.emod_lt_of_pos _ hn⟩
theorem pick_tmod (x n : Int) (hn0 : 0 < n) (hn : n < 1000000) : wrap64 ((IntKind.u64.wrap x).tmod n) = pick x n := by
  have h0 : 0 ≤ IntKind.u64.wrap x := by
    have : (2 : Int) ^ IntKind.u64.bits ≠ 0 := by decide
    simp only [IntKind.wrap, IntKind.signed, Bool.false_and, if_false, Bool.false_eq_true]
    exact Int.emod_nonneg _ this
  have h := pick_range x n hn0
  unfold pick at *
  rw [Int.tmod_eq_emod_of_nonneg h0]
  unfold wrap64; omega

set_option maxHeartbeats 400000 in
theorem wPick_any (x n : Int) (hn0 : 0 < n) (hn : n < 1000000) (w : World) :
    Calls Tryd.prog 20 #[.int .i64 x, .int .i64 n] w fun e w' => e = .returned (.int .i64 (pick x n)) ∧ w = w' := by
  go_enter Tryd.func20, Tryd.ntmps20
  go_wp2
  go_ret
  exact ⟨ret_int (pick_tmod x n hn0 hn), rfl⟩

/-- wRevOf of one operand. -/
theorem below_cell {w w' : World} {base : Nat} (h : Below base w w') {p : Addr} {v : Value} (hp : p.block < base) (hc : w.cell? p = some v) : w'.cell? p = some v := (h.cell hp).trans hc

theorem heap_alloc_new (w : World) (o : Obj) : (w.alloc o).heap[w.heap.size]? = some o := by
  show (w.heap.push o)[w.heap.size]? = _
  simp
theorem heap_alloc_at {w : World} {b : Nat} (o : Obj) (hb : b = w.heap.size) : (w.alloc o).heap[b]? = some o := by subst hb; exact heap_alloc_new w o
theorem below_alloc (w : World) (o : Obj) : Below w.heap.size w (w.alloc o) := (Below.refl _ _).alloc (Nat.le_refl _) o

/-- Nothing that stood in w has turned (a name of its own: the walk's simp does not look behind it). -/
def Bel (w w' : World) : Prop := Below w.heap.size w w'
theorem Bel.refl (w : World) : Bel w w := Below.refl _ _
theorem Bel.trans {a b c : World} (h : Bel a b) (k : Bel b c) : Bel a c := Below.trans h (Below.mono k h.size)
theorem Bel.alloc (w : World) (o : Obj) : Bel w (w.alloc o) := below_alloc w o
theorem Bel.drew (w : World) : Bel w w.drew := (Below.refl _ _).drew
theorem Bel.drewN (w : World) (n : Nat) : Bel w (w.drewN n) := ⟨rfl, rfl, rfl, Nat.le_refl _, fun _ _ => rfl⟩
theorem Bel.size {w w' : World} (h : Bel w w') : w.heap.size ≤ w'.heap.size := Below.size h
theorem Bel.cell {w w' : World} (h : Bel w w') {p : Addr} {v : Value} (hc : w.cell? p = some v) : w'.cell? p = some v := (Below.cell h (World.block_lt_of_cell? w p hc)).trans hc
theorem Tr.bel {ty : TypeId} {w w' : World} {base : Nat} {t : RT} {v : Value} (h : Tr ty w base t v) (hw : Bel w w') : Tr ty w' base t v := h.below hw

theorem Tr.ndCells {ty : TypeId} {w : World} {b : Nat} {k n : Int} {vl vr : Value} (h : w.heap[b]? = some (.cells #[.int .i64 k, .int .i64 n, vl, vr] ty (0, 0))) :
    w.cell? ⟨b, 0, none⟩ = some (.int .i64 k) ∧ w.cell? ⟨b, 1, none⟩ = some (.int .i64 n) ∧ w.cell? ⟨b, 2, none⟩ = some vl ∧ w.cell? ⟨b, 3, none⟩ = some vr := by
  simp [World.cell?, h]

theorem Bel.cells {W w1 : World} (hb : Bel W w1) : (∀ b o, b < W.heap.size → w1.cell? ⟨b, o, none⟩ = W.cell? ⟨b, o, none⟩) ∧ (∀ b o, b < W.heap.size → w1.frozen? ⟨b, o, none⟩ = W.frozen? ⟨b, o, none⟩) :=
  ⟨fun b o h => Below.cell hb (p := ⟨b, o, none⟩) h, fun b o h => Below.frozen hb (p := ⟨b, o, none⟩) h⟩
theorem Bel.setCell {w w' : World} (h : Bel w w') {p : Addr} (hp : w.heap.size ≤ p.block) (u : Value) : Bel w (w'.setCell p u) := Below.setCell h hp u
theorem Bel.thenAlloc {w w' : World} (h : Bel w w') (o : Obj) : Bel w (w'.alloc o) := h.trans (Bel.alloc _ _)
theorem heap_setCell_far (w : World) (a : Addr) (u : Value) {k : Nat} (h : k ≠ a.block) : (w.setCell a u).heap[k]? = w.heap[k]? := Below.heap_setCell w a u k h
theorem heap_setCell_at {w : World} {b : Nat} {cs : Array Value} {ty : TypeId} (h : w.heap[b]? = some (.cells cs ty (0, 0))) (i : Nat) (u : Value) : (w.setCell ⟨b, i, none⟩ u).heap[b]? = some (.cells (cs.setIfInBounds i u) ty (0, 0)) := by
  simp only [World.setCell, Array.getElem?_modify, if_true, h]
  rfl
theorem heap_alloc_old {w : World} {b : Nat} {x : Obj} (h : w.heap[b]? = some x) (o : Obj) : (w.alloc o).heap[b]? = some x := (Below.heap_alloc w o b (Array.getElem?_eq_some_iff.1 h).1).trans h
theorem Bel.heap {w w' : World} (h : Bel w w') {b : Nat} {x : Obj} (hb : w.heap[b]? = some x) : w'.heap[b]? = some x := (Below.block h b (Array.getElem?_eq_some_iff.1 hb).1).trans hb
/-- A store below a tree's base leaves it. -/
theorem Tr.set {ty : TypeId} {w : World} {base : Nat} {p : Addr} (hp : p.block < base) (u : Value) : ∀ {t : RT} {v : Value}, Tr ty w base t v → Tr ty (w.setCell p u) base t v
  | .nil, _, h => h
  | .node _ _ _ _, _, ⟨b, vl, vr, hv, hb, hc, hl, hr⟩ => ⟨b, vl, vr, hv, hb, (heap_setCell_far w p u (by omega)).trans hc, hl.set hp u, hr.set hp u⟩

/-- The node b reads k, n, vl, vr. -/
abbrev Nd (w' : World) (b : Nat) (k n : Int) (vl vr : Value) : Prop :=
  w'.cell? ⟨b, 0, none⟩ = some (.int .i64 k) ∧ w'.cell? ⟨b, 1, none⟩ = some (.int .i64 n) ∧ w'.cell? ⟨b, 2, none⟩ = some vl ∧ w'.cell? ⟨b, 3, none⟩ = some vr
theorem Nd.bel {w w1 w2 : World} {b : Nat} {k n : Int} {vl vr : Value} (h : Bel w w1 ∧ Nd w1 b k n vl vr) (hw : Bel w1 w2) : Bel w w2 ∧ Nd w2 b k n vl vr :=
  ⟨h.1.trans hw, hw.cell h.2.1, hw.cell h.2.2.1, hw.cell h.2.2.2.1, hw.cell h.2.2.2.2⟩

/-- What a tree's function hands back, with nothing that was there changed. -/
def Ret (ty : TypeId) (w : World) (base : Nat) (t : RT) (e : Ending) (w' : World) : Prop :=
  ∃ p, e = .returned (.pointer p) ∧ Tr ty w' base t (.pointer p) ∧ Bel w w'

/-- A new node over two trees. -/
theorem Tr.new {ty : TypeId} {w : World} {base : Nat} (k n : Int) {l r : RT} {vl vr : Value} (hb : base ≤ w.heap.size) (hl : Tr ty w base l vl) (hr : Tr ty w base r vr) :
    Tr ty (w.alloc (.cells #[.int .i64 k, .int .i64 n, vl, vr] ty)) base (.node k n l r) (.pointer (some ⟨w.heap.size, 0, none⟩)) :=
  ⟨_, vl, vr, rfl, hb, heap_alloc_new _ _, hl.below (below_alloc _ _), hr.below (below_alloc _ _)⟩

theorem Tr.newAt {ty : TypeId} {w : World} {base b : Nat} (k n : Int) {l r : RT} {vl vr : Value} (hb : base ≤ w.heap.size) (hb' : b = w.heap.size) (hl : Tr ty w base l vl) (hr : Tr ty w base r vr) :
    Tr ty (w.alloc (.cells #[.int .i64 k, .int .i64 n, vl, vr] ty)) base (.node k n l r) (.pointer (some ⟨b, 0, none⟩)) := by subst hb'; exact Tr.new k n hb hl hr

/-- The tree t lies in w at v, its nodes' blocks in preorder are bs, all from base on. -/
def TrB (ty : TypeId) (w : World) (base : Nat) : RT → Value → List Nat → Prop
  | .nil, v, bs => v = .pointer none ∧ bs = []
  | .node k n l r, v, bs => ∃ b vl vr bl br, v = .pointer (some ⟨b, 0, none⟩) ∧ bs = b :: (bl ++ br) ∧ base ≤ b ∧ w.heap[b]? = some (.cells #[.int .i64 k, .int .i64 n, vl, vr] ty (0, 0)) ∧ TrB ty w base l vl bl ∧ TrB ty w base r vr br
namespace TrB
variable {ty : TypeId} {w w' : World} {base : Nat}
theorem nil : TrB ty w base .nil (.pointer none) [] := ⟨rfl, rfl⟩
theorem tr : ∀ {t : RT} {v : Value} {bs : List Nat}, TrB ty w base t v bs → Tr ty w base t v
  | .nil, _, _, h => h.1
  | .node _ _ _ _, _, _, ⟨b, vl, vr, _, _, hv, _, hb, hc, hl, hr⟩ => ⟨b, vl, vr, hv, hb, hc, hl.tr, hr.tr⟩
theorem lower {base' : Nat} (hb : base' ≤ base) : ∀ {t : RT} {v : Value} {bs : List Nat}, TrB ty w base t v bs → TrB ty w base' t v bs
  | .nil, _, _, h => h
  | .node _ _ _ _, _, _, ⟨b, vl, vr, bl, br, hv, hs, hb', hc, hl, hr⟩ => ⟨b, vl, vr, bl, br, hv, hs, Nat.le_trans hb hb', hc, hl.lower hb, hr.lower hb⟩
theorem bel (hw : Bel w w') : ∀ {t : RT} {v : Value} {bs : List Nat}, TrB ty w base t v bs → TrB ty w' base t v bs
  | .nil, _, _, h => h
  | .node _ _ _ _, _, _, ⟨b, vl, vr, bl, br, hv, hs, hb, hc, hl, hr⟩ => ⟨b, vl, vr, bl, br, hv, hs, hb, hw.heap hc, hl.bel hw, hr.bel hw⟩
theorem range : ∀ {t : RT} {v : Value} {bs : List Nat}, TrB ty w base t v bs → ∀ b, b ∈ bs → base ≤ b ∧ b < w.heap.size
  | .nil, _, _, h => by rw [h.2]; intro b hb; cases hb
  | .node _ _ _ _, _, _, ⟨b, vl, vr, bl, br, hv, hs, hb, hc, hl, hr⟩ => by
    subst hs
    intro b' hm
    rcases List.mem_cons.1 hm with rfl | hm
    · exact ⟨hb, (Array.getElem?_eq_some_iff.1 hc).1⟩
    · rcases List.mem_append.1 hm with hm | hm
      · exact hl.range b' hm
      · exact hr.range b' hm
/-- A store elsewhere. -/
theorem set {p : Addr} (u : Value) : ∀ {t : RT} {v : Value} {bs : List Nat}, TrB ty w base t v bs → p.block ∉ bs → TrB ty (w.setCell p u) base t v bs
  | .nil, _, _, h, _ => h
  | .node _ _ _ _, _, _, ⟨b, vl, vr, bl, br, hv, hs, hb, hc, hl, hr⟩, hp => by
    subst hs
    simp only [List.mem_cons, List.mem_append, not_or] at hp
    exact ⟨b, vl, vr, bl, br, hv, rfl, hb, (heap_setCell_far w p u (fun e => hp.1 e.symm)).trans hc, hl.set u hp.2.1, hr.set u hp.2.2⟩
theorem newAt {b : Nat} (k n : Int) (hb : base ≤ w.heap.size) (hb' : b = w.heap.size) :
    TrB ty (w.alloc (.cells #[.int .i64 k, .int .i64 n, .pointer none, .pointer none] ty)) base (.node k n .nil .nil) (.pointer (some ⟨b, 0, none⟩)) [b] := by
  subst hb'
  exact ⟨_, _, _, [], [], rfl, rfl, hb, heap_alloc_new _ _, nil, nil⟩
end TrB

/-- What wTree and grow hand back: new blocks, no two alike. -/
def RetB (ty : TypeId) (w : World) (t : RT) (e : Ending) (w' : World) : Prop :=
  ∃ p bs, e = .returned (.pointer p) ∧ TrB ty w' w.heap.size t (.pointer p) bs ∧ bs.Nodup ∧ Bel w w'

/-- The node at b, made ahead of its left operand, which is then stored into it. -/
theorem TrB.left {ty : TypeId} {W w1 : World} {base b : Nat} {k n : Int} {l : RT} {p1 : Option Addr} {b1 : List Nat} (hbase : base ≤ b) (hsz : b < W.heap.size) (hW : W.heap[b]? = some (.cells #[.int .i64 k, .int .i64 n, .pointer none, .pointer none] ty (0, 0)))
    (hb : Bel W w1) (hl : TrB ty w1 W.heap.size l (.pointer p1) b1) (hd : b1.Nodup) :
    TrB ty (w1.setCell ⟨b, 2, none⟩ (.pointer p1)) base (.node k n l .nil) (.pointer (some ⟨b, 0, none⟩)) (b :: b1) ∧ (b :: b1).Nodup := by
  have hn : b ∉ b1 := fun hm => by have := (hl.range b hm).1; omega
  exact ⟨⟨b, _, _, b1, [], rfl, by simp, hbase, heap_setCell_at (hb.heap hW) 2 _, (hl.set _ hn).lower (by omega), TrB.nil⟩, List.nodup_cons.2 ⟨hn, hd⟩⟩
/-- .. and then its right one. -/
theorem TrB.right {ty : TypeId} {W w1 w2 : World} {base b : Nat} {k n : Int} {l r : RT} {p1 p2 : Option Addr} {b1 b2 : List Nat} (hbase : base ≤ b) (hsz : b < W.heap.size) (hW : W.heap[b]? = some (.cells #[.int .i64 k, .int .i64 n, .pointer none, .pointer none] ty (0, 0)))
    (hb : Bel W w1) (hl : TrB ty w1 W.heap.size l (.pointer p1) b1) (hd1 : b1.Nodup) (hb2 : Bel (w1.setCell ⟨b, 2, none⟩ (.pointer p1)) w2) (hr : TrB ty w2 (w1.setCell ⟨b, 2, none⟩ (.pointer p1)).heap.size r (.pointer p2) b2) (hd2 : b2.Nodup) :
    TrB ty (w2.setCell ⟨b, 3, none⟩ (.pointer p2)) base (.node k n l r) (.pointer (some ⟨b, 0, none⟩)) (b :: (b1 ++ b2)) ∧ (b :: (b1 ++ b2)).Nodup := by
  have hs := hb.size
  have hs1 : (w1.setCell ⟨b, 2, none⟩ (.pointer p1)).heap.size = w1.heap.size := by simp [World.setCell]
  rw [hs1] at hr
  have hn1 : b ∉ b1 := fun hm => by have := (hl.range b hm).1; omega
  have hn2 : b ∉ b2 := fun hm => by have := (hr.range b hm).1; omega
  refine ⟨⟨b, _, _, b1, b2, rfl, rfl, hbase, heap_setCell_at (hb2.heap (heap_setCell_at (hb.heap hW) 2 _)) 3 _, (((hl.set _ hn1).bel hb2).set _ hn1).lower (by omega), (hr.set _ hn2).lower (by omega)⟩, ?_⟩
  refine List.nodup_cons.2 ⟨by simp [hn1, hn2], List.nodup_append.2 ⟨hd1, hd2, fun a ha c hc e => ?_⟩⟩
  subst e
  have := (hl.range a ha).2
  have := (hr.range a hc).1
  omega

set_option maxHeartbeats 400000 in
theorem wRevOf_none (k : Int) (w : World) :
    Calls Tryd.prog 18 #[.int .i64 k, .slice none 0 0] w (Ret 36 w w.heap.size (.node k 0 .nil .nil)) := by
  go_enter Tryd.func18, Tryd.ntmps18
  go_wp2
  go_ret
  exact ⟨_, rfl, Tr.new k 0 (Nat.le_refl _) rfl rfl, below_alloc _ _⟩
set_option maxHeartbeats 400000 in
theorem wRevOf_one (k : Int) (w : World) (g : Nat) (x : Value) (c : Nat) (hx : w.cell? ⟨g, 0, none⟩ = some x) (l : RT) (base : Nat) (hb : base ≤ w.heap.size) (hl : Tr 36 w base l x) :
    Calls Tryd.prog 18 #[.int .i64 k, .slice (some ⟨g, 0, none⟩) 1 c] w (Ret 36 w base (.node k 0 l .nil)) := by
  obtain ⟨p, rfl⟩ := hl.pointer
  have hg : g < w.heap.size := World.block_lt_of_cell? _ _ hx
  go_enter Tryd.func18, Tryd.ntmps18
  go_wp2
  go_ret
  exact ⟨_, rfl, Tr.new k 0 hb hl rfl, below_alloc _ _⟩
set_option maxHeartbeats 400000 in
theorem wRevOf_two (k : Int) (w : World) (g : Nat) (x y : Value) (c : Nat) (hx : w.cell? ⟨g, 0, none⟩ = some x) (hy : w.cell? ⟨g, 1, none⟩ = some y) (l r : RT) (base : Nat) (hb : base ≤ w.heap.size) (hl : Tr 36 w base l x) (hr : Tr 36 w base r y) :
    Calls Tryd.prog 18 #[.int .i64 k, .slice (some ⟨g, 0, none⟩) 2 c] w (Ret 36 w base (.node k 0 l r)) := by
  obtain ⟨p, rfl⟩ := hl.pointer
  obtain ⟨q, rfl⟩ := hr.pointer
  have hg : g < w.heap.size := World.block_lt_of_cell? _ _ hx
  go_enter Tryd.func18, Tryd.ntmps18
  go_wp2
  go_ret
  exact ⟨_, rfl, Tr.new k 0 hb hl hr, below_alloc _ _⟩

theorem wSame_any (t : RT) : ∀ (v : Value) (w : World) (base base' : Nat), Tr 36 w base t v → base' ≤ w.heap.size → Calls Tryd.prog 19 #[v] w (Ret 36 w base' t) := by
  induction t with
  | nil =>
    intro v w base base' h hb'
    obtain rfl : v = .pointer none := h
    go_enter Tryd.func19, Tryd.ntmps19
    go_wp2_with fail
    go_ret
    exact ⟨_, rfl, rfl, Bel.refl _⟩
  | node k n l r ihl ihr =>
    intro v w base base' h hb'
    obtain ⟨b, vl, vr, rfl, hb, hc, hl, hr⟩ := h
    have hn : Bel w w.drew ∧ Nd w.drew b k n vl vr := ⟨Bel.drew w, Tr.ndCells hc⟩
    obtain ⟨h0, h1, h2, h3⟩ := Tr.ndCells hc
    obtain ⟨p, rfl⟩ := hl.pointer
    obtain ⟨q, rfl⟩ := hr.pointer
    have hg : b < w.heap.size := World.block_lt_of_cell? _ _ h0
    replace hl := hl.bel (Bel.drew w)
    replace hr := hr.bel (Bel.drew w)
    go_enter Tryd.func19, Tryd.ntmps19
    go_wp2_with fail
    go_region_held3 (fun w' => Bel w w' ∧ w'.cell? ⟨b, 0, none⟩ = some (.int .i64 k) ∧ w'.cell? ⟨b, 1, none⟩ = some (.int .i64 n) ∧ w'.cell? ⟨b, 2, none⟩ = some (.pointer p) ∧ w'.cell? ⟨b, 3, none⟩ = some (.pointer q))
      (first | exact hn | exact Nd.bel (by assumption) (by assumption) | exact Nd.bel (by assumption) (Bel.alloc _ _))
      (first | (go_at_call_of 19 (Value.pointer p); refine (ihl _ _ base base' hl (Nat.le_trans hb' (Bel.size (And.left (by assumption))))).mono ?_; rintro e w1 ⟨p1, rfl, ht1, hb1⟩) | (go_at_call_of 19 (Value.pointer q); refine (ihr _ _ base base' (by repeat (first | assumption | refine Tr.bel ?_ (by assumption))) (Nat.le_trans hb' (Bel.size (And.left (by assumption))))).mono ?_; rintro e w2 ⟨p2, rfl, ht2, hb2⟩))
    go_wp2_with fail
    go_ret
    exact ⟨_, rfl, Tr.new k n (by have := Bel.size hb1; have := Bel.size hb2; simp at *; omega) (ht1.bel hb2) ht2, And.left (by assumption)⟩

end Go.Proofs.YtijaoedlhmdpnaaDoor
/- Trees and their lists of nodes in postorder: plain Lean, nothing of the program in it but the two structs' names. -/
namespace Go.Proofs.YtijaoedlhmdpnaaDoor
open Go.RowKit Go.Proofs.YtijaoedlhmdpnaaDoor.PTopQueriesKept Go.Proofs.YtijaoedlhmdpnaaDoorW.PrintWords

namespace RT
def size : RT → Nat
  | nil => 0
  | node _ _ l r => l.size + r.size + 1
/-- The number of the root of a tree whose first node is number off; 0 where there is no tree. -/
def root (off : Nat) : RT → Int
  | nil => 0
  | node _ _ l r => (off + l.size + r.size : Nat)
/-- The nodes in postorder, the first of them number off. -/
def post (off : Nat) : RT → List S53
  | nil => []
  | node k n l r => post off l ++ (post (off + l.size) r ++ [⟨k, n, l.root off, r.root (off + l.size)⟩])
theorem post_length : ∀ (t : RT) (off : Nat), (t.post off).length = t.size
  | nil, _ => rfl
  | node k n l r, off => by simp [post, size, post_length l, post_length r]; omega
end RT

/-- The node i of the list that lies at A: its cells by block and offset. -/
theorem at53 {w : World} {A : Option Addr} {n : Nat} {xs : List S53} (h : Kd.C k53 w A n xs) (i : Int) (h0 : 0 ≤ i) (h1 : i < n) :
    ∃ ad B O, A = some ad ∧ ad.add (i.toNat * 4) = ⟨B, O, none⟩ ∧ B < w.heap.size ∧ w.cell? ⟨B, O, none⟩ = some (.int .i64 (rd_T53 xs i).f0) ∧ w.cell? ⟨B, O + 1, none⟩ = some (.int .i64 (rd_T53 xs i).f1) ∧
      w.cell? ⟨B, O + 2, none⟩ = some (.int .i64 (rd_T53 xs i).f2) ∧ w.cell? ⟨B, O + 3, none⟩ = some (.int .i64 (rd_T53 xs i).f3) := by
  obtain ⟨ad, e, c0, c1, c2, c3⟩ := at_T53 h i h0 h1
  have hs : (ad.add (i.toNat * 4)).spot = none := World.cell?_spot c0
  refine ⟨ad, (ad.add (i.toNat * 4)).block, (ad.add (i.toNat * 4)).off, e, ?_, World.block_lt_of_cell? _ _ c0, ?_, c1, c2, c3⟩
  · rw [← hs]
  · rw [← c0, ← hs]

/-- The kinds have the operands that they ask for. -/
inductive Sh : RT → Prop where
  | leaf {k n : Int} (h1 : 1 ≤ k) (h6 : k ≤ 6) : Sh (.node k n .nil .nil)
  | un {k n : Int} {l : RT} (h7 : 7 ≤ k) (h13 : k ≤ 13) (hl : Sh l) : Sh (.node k n l .nil)
  | bin {k n : Int} {l r : RT} (h14 : 14 ≤ k) (h16 : k ≤ 16) (hl : Sh l) (hr : Sh r) : Sh (.node k n l r)

/-- The nodes xs hold the tree t, its first node at off. -/
def Seg (xs : List S53) (off : Nat) (t : RT) : Prop := off + t.size ≤ xs.length ∧ ∀ i, i < t.size → xs[off + i]? = (t.post off)[i]?

theorem Seg.root {xs : List S53} {off : Nat} {k n : Int} {l r : RT} (h : Seg xs off (.node k n l r)) :
    rd_T53 xs ((RT.node k n l r).root off) = ⟨k, n, l.root off, r.root (off + l.size)⟩ ∧ 0 ≤ (RT.node k n l r).root off ∧ (RT.node k n l r).root off < xs.length := by
  obtain ⟨h1, h2⟩ := h
  have h3 := h2 (l.size + r.size) (by simp [RT.size])
  simp only [RT.size] at h1
  have hroot : (RT.node k n l r).root off = ((off + l.size + r.size : Nat) : Int) := rfl
  rw [hroot]
  refine ⟨?_, by omega, by omega⟩
  unfold rd_T53
  simp only [Int.toNat_natCast, List.getD_eq_getElem?_getD]
  rw [show off + l.size + r.size = off + (l.size + r.size) by omega, h3]
  simp only [RT.post]
  rw [List.getElem?_append_right (by simp [RT.post_length]), List.getElem?_append_right (by simp [RT.post_length])]
  simp [RT.post_length]

theorem Seg.left {xs : List S53} {off : Nat} {k n : Int} {l r : RT} (h : Seg xs off (.node k n l r)) : Seg xs off l := by
  obtain ⟨h1, h2⟩ := h
  simp only [RT.size] at h1 h2
  refine ⟨by omega, fun i hi => ?_⟩
  rw [h2 i (by omega)]
  simp only [RT.post]
  rw [List.getElem?_append_left (by simpa [RT.post_length] using hi)]

theorem Seg.right {xs : List S53} {off : Nat} {k n : Int} {l r : RT} (h : Seg xs off (.node k n l r)) : Seg xs (off + l.size) r := by
  obtain ⟨h1, h2⟩ := h
  simp only [RT.size] at h1 h2
  refine ⟨by omega, fun i hi => ?_⟩
  rw [show off + l.size + i = off + (l.size + i) by omega, h2 (l.size + i) (by omega)]
  simp only [RT.post]
  rw [List.getElem?_append_right (by simp [RT.post_length]), List.getElem?_append_left (by simp [RT.post_length]; omega)]
  simp [RT.post_length]

theorem Seg.whole (t : RT) : Seg (t.post 0) 0 t := ⟨by simp [RT.post_length], fun i _ => by simp⟩
theorem RT.root_of_size {t : RT} (h : t ≠ .nil) (off : Nat) : t.root off = (off + t.size : Nat) - 1 := by
  cases t with
  | nil => exact absurd rfl h
  | node k n l r => simp [RT.root, RT.size]; omega
theorem Sh.ne_nil {t : RT} (h : Sh t) : t ≠ .nil := by cases h <;> simp

end Go.Proofs.YtijaoedlhmdpnaaDoor
/- wNodes walked: the nodes of a tree are appended to a query. -/
namespace Go.Proofs.YtijaoedlhmdpnaaDoor
open Go.RowKit Go.Proofs.YtijaoedlhmdpnaaDoor.PTopQueriesKept Go.Proofs.YtijaoedlhmdpnaaDoorW.PrintWords

/-- What may have turned: blocks of S, and what is new. -/
structure Chg (S : Nat → Prop) (w w' : World) : Prop where
  os : w'.os = w.os
  tape : w'.tape = w.tape
  output : w'.output = w.output
  size : w.heap.size ≤ w'.heap.size
  block : ∀ k, k < w.heap.size → ¬ S k → w'.heap[k]? = w.heap[k]?
namespace Chg
variable {S S2 : Nat → Prop} {w w1 w2 : World}
theorem refl (S : Nat → Prop) (w : World) : Chg S w w := ⟨rfl, rfl, rfl, Nat.le_refl _, fun _ _ _ => rfl⟩
theorem trans (h : Chg S w w1) (k : Chg S2 w1 w2) (hs : ∀ k, S2 k → S k ∨ w.heap.size ≤ k) : Chg S w w2 :=
  ⟨k.os.trans h.os, k.tape.trans h.tape, k.output.trans h.output, Nat.le_trans h.size k.size, fun i hi hn =>
    (k.block i (Nat.lt_of_lt_of_le hi h.size) (fun h2 => (hs i h2).elim hn (fun h3 => by omega))).trans (h.block i hi hn)⟩
theorem mono (h : Chg S w w1) (hs : ∀ k, S k → S2 k) : Chg S2 w w1 := ⟨h.os, h.tape, h.output, h.size, fun i hi hn => h.block i hi (fun hk => hn (hs i hk))⟩
theorem of_bel (h : Bel w w1) (S : Nat → Prop) : Chg S w w1 := ⟨h.os, h.tape, h.output, Below.size h, fun i hi _ => Below.block h i hi⟩
theorem bel (h : Chg S w w1) (hk : Bel w1 w2) : Chg S w w2 := h.trans (of_bel hk (fun _ => False)) (fun _ hf => hf.elim)
theorem alloc (h : Chg S w w1) (o : Obj) : Chg S w (w1.alloc o) := h.bel (Bel.alloc _ _)
theorem drew (h : Chg S w w1) : Chg S w w1.drew := ⟨h.os, h.tape, h.output, h.size, h.block⟩
theorem setCell (h : Chg S w w1) {p : Addr} (hp : S p.block ∨ w.heap.size ≤ p.block) (u : Value) : Chg S w (w1.setCell p u) :=
  h.trans (S2 := fun k => k = p.block) ⟨rfl, rfl, rfl, by simp [World.setCell], fun i _ hn => Below.heap_setCell w1 p u i hn⟩ (fun k hk => by rw [hk]; exact hp)
theorem grown {row : Option Nat} (h : Chg S w w1) (hg : w1.grownBy w2 row) (hr : ∀ k, row = some k → S k ∨ w.heap.size ≤ k) : Chg S w w2 :=
  h.trans (S2 := fun k => row = some k) ⟨hg.os, hg.tape, hg.output, hg.size, fun i hi hn => hg.block i hi (fun he => hn he.symm)⟩ hr
/-- What changed is all of the call's own: nothing that was there has turned. -/
theorem to_bel {w0 : World} (h : Chg S w w1) (h0 : Bel w0 w) (hs : ∀ k, S k → w0.heap.size ≤ k) : Bel w0 w1 :=
  ⟨h.os.trans h0.os, h.tape.trans h0.tape, h.output.trans h0.output, Nat.le_trans (Below.size h0) h.size, fun k hk => (h.block k (Nat.lt_of_lt_of_le hk (Below.size h0)) (fun hS => by have := hs k hS; omega)).trans (Below.block h0 k hk)⟩
theorem heap (h : Chg S w w1) {b : Nat} {x : Obj} (hb : w.heap[b]? = some x) (hn : ¬ S b) : w1.heap[b]? = some x := (h.block b (Array.getElem?_eq_some_iff.1 hb).1 hn).trans hb
end Chg

theorem Tr.isPtr {ty : TypeId} {w : World} {base : Nat} {t : RT} {p : Option Addr} (h : Tr ty w base t (.pointer p)) (hs : Sh t) : ∃ a, p = some a := by
  cases t with
  | nil => exact absurd rfl hs.ne_nil
  | node k n l r => obtain ⟨b, vl, vr, hv, _⟩ := h; injection hv with hv; exact ⟨_, hv⟩

theorem Tr.chg {ty : TypeId} {w w' : World} {base : Nat} {S : Nat → Prop} (hw : Chg S w w') (hS : ∀ k, S k → ∀ cs, w.heap[k]? ≠ some (.cells cs ty (0, 0))) : ∀ {t : RT} {v : Value}, Tr ty w base t v → Tr ty w' base t v
  | .nil, _, h => h
  | .node _ _ _ _, _, ⟨b, vl, vr, hv, hb, hc, hl, hr⟩ => ⟨b, vl, vr, hv, hb, hw.heap hc (fun hk => hS b hk _ hc), hl.chg hw hS, hr.chg hw hS⟩

/-- A query under way: its block g holds the slice v, which is the call's own and reads ns. -/
structure QSt (w : World) (base g : Nat) (ns : List S53) (v : Value) : Prop where
  ge : base ≤ g
  blk : w.heap[g]? = some (.cells #[v] 25 (0, 0))
  row : Kd.R k53 53 w base (fun _ => True) v ns

theorem QSt.own_type {w : World} {base g : Nat} {ns : List S53} {v : Value} (h : QSt w base g ns v) {k : Nat} (hk : v.ownBlock = some k) : ∃ cs, w.heap[k]? = some (.cells cs 53 (0, 0)) := by
  obtain ⟨inner, ho⟩ := Kd.R_own h.row
  exact own_typed ho k hk

/-- The blocks that an append to the query may turn. -/
def QS (g : Nat) (v : Value) (k : Nat) : Prop := k = g ∨ v.ownBlock = some k

theorem QSt.not_ty {w : World} {base g : Nat} {ns : List S53} {v : Value} (h : QSt w base g ns v) {ty : TypeId} (h25 : ty ≠ 25) (h53 : ty ≠ 53) : ∀ k, QS g v k → ∀ cs, w.heap[k]? ≠ some (.cells cs ty (0, 0)) := by
  rintro k (rfl | hk) cs he
  · rw [h.blk] at he; injection he with he; injection he with _ e; exact h25 e.symm
  · obtain ⟨cs', h'⟩ := h.own_type hk
    rw [h'] at he; injection he with he; injection he with _ e; exact h53 e.symm

theorem QSt.g_ne {w : World} {base g : Nat} {ns : List S53} {v : Value} (h : QSt w base g ns v) : ¬ v.ownBlock = some g := by
  intro hk
  obtain ⟨cs', h'⟩ := h.own_type hk
  rw [h.blk] at h'; injection h' with e; injection e with _ e; cases e
theorem QSt.lt {w : World} {base g : Nat} {ns : List S53} {v : Value} (h : QSt w base g ns v) : ∀ k, QS g v k → k < w.heap.size := by
  rintro k (rfl | hk)
  · exact (Array.getElem?_eq_some_iff.1 h.blk).1
  · obtain ⟨cs', h'⟩ := h.own_type hk
    exact (Array.getElem?_eq_some_iff.1 h').1

theorem QSt.bel {w w' : World} {base g : Nat} {ns : List S53} {v : Value} (h : QSt w base g ns v) (hw : Bel w w') : QSt w' base g ns v := ⟨h.ge, hw.heap h.blk, Kd.R_below h.row hw⟩

theorem row_own {w : World} {base : Nat} {ns : List S53} {v : Value} {ok : Nat → Prop} (h : Kd.R k53 53 w base ok v ns) : Kd.R k53 53 w base (fun k => v.ownBlock = some k) v ns :=
  ⟨fun _ h => h, h.2.imp_ (fun p c hp => by obtain rfl := k53_openM hp; exact k53_mkM _ _ _ _)⟩

theorem QSt.chg {w w' : World} {base g : Nat} {ns : List S53} {v : Value} {S : Nat → Prop} (h : QSt w base g ns v) (hw : Chg S w w') (hS : ∀ k, QS g v k → ¬ S k) : QSt w' base g ns v :=
  ⟨h.ge, hw.heap h.blk (hS g (.inl rfl)), Kd.R_mono (Kd.R_step (row_own h.row) (fun k hk hlt => hw.block k hlt (hS k (.inr hk)))) (fun _ _ => trivial)⟩

theorem QSt.set {w : World} {base g : Nat} {ns : List S53} {v : Value} (h : QSt w base g ns v) {p : Addr} (hp : ¬ QS g v p.block) (u : Value) : QSt (w.setCell p u) base g ns v :=
  h.chg ((Chg.refl (fun k => k = p.block) w).setCell (.inl rfl) u) (fun _ hk he => hp (he ▸ hk))

theorem QSt.appended {W w1 : World} {base g : Nat} {ns : List S53} {v v1 : Value} {x : S53} (h : QSt W base g ns v) (hr : Kd.R k53 53 w1 base (fun _ => True) v1 (ns ++ [x])) (hg : W.drew.grownBy w1 v.ownBlock)
    (hat : v1.ownBlock = v.ownBlock ∨ ∃ b, v1.ownBlock = some b ∧ W.drew.heap.size ≤ b) :
    QSt (w1.setCell ⟨g, 0, none⟩ v1) base g (ns ++ [x]) v1 ∧ Chg (QS g v) W (w1.setCell ⟨g, 0, none⟩ v1) ∧ ∀ k, QS g v1 k → QS g v k ∨ W.heap.size ≤ k := by
  have hgl : g < W.heap.size := (Array.getElem?_eq_some_iff.1 h.blk).1
  have hb1 : w1.heap[g]? = some (.cells #[v] 25 (0, 0)) := (hg.block g hgl (fun e => h.g_ne e.symm)).trans h.blk
  have hne : ¬ v1.ownBlock = some g := by
    rcases hat with e | ⟨b, e, hb⟩
    · rw [e]; exact h.g_ne
    · rw [e]; intro e'; injection e' with e'; subst e'; exact absurd hgl (by simpa using hb)
  refine ⟨⟨h.ge, heap_setCell_at hb1 0 _, Kd.R_mono (Kd.R_step (row_own hr) (fun k hk _ => heap_setCell_far w1 _ _ (fun e => hne (by subst e; exact hk)))) (fun _ _ => trivial)⟩, ?_, ?_⟩
  · exact (((Chg.refl (QS g v) W).drew).grown hg (fun k hk => .inl (.inr hk))).setCell (.inl (.inl rfl)) _
  · rintro k (rfl | hk)
    · exact .inl (.inl rfl)
    · rcases hat with e | ⟨b, e, hb⟩
      · exact .inl (.inr (e ▸ hk))
      · rw [e] at hk; injection hk with hk; subst hk; exact .inr hb

theorem blk4 {w : World} {b : Nat} {ty : TypeId} {a0 a1 a2 a3 : Value} (h : w.heap[b]? = some (.cells #[a0, a1, a2, a3] ty (0, 0))) :
    (w.cell? ⟨b, 0, none⟩ = some a0 ∧ w.cell? ⟨b, 1, none⟩ = some a1 ∧ w.cell? ⟨b, 2, none⟩ = some a2 ∧ w.cell? ⟨b, 3, none⟩ = some a3) ∧ ∀ o, w.frozen? ⟨b, o, none⟩ = false := by
  refine ⟨by simp [World.cell?, h], fun o => ?_⟩
  simp [World.frozen?, h]
theorem blk1 {w : World} {b : Nat} {ty : TypeId} {a0 : Value} (h : w.heap[b]? = some (.cells #[a0] ty (0, 0))) : w.cell? ⟨b, 0, none⟩ = some a0 ∧ w.frozen? ⟨b, 0, none⟩ = false := by
  simp [World.cell?, World.frozen?, h]

/-- What wNodes leaves. -/
def WN (w : World) (base g : Nat) (ns : List S53) (v : Value) (t : RT) (e : Ending) (w' : World) : Prop :=
  ∃ v', e = .returned (.int .i64 (t.root ns.length)) ∧ QSt w' base g (ns ++ t.post ns.length) v' ∧ Chg (QS g v) w w' ∧ ∀ k, QS g v' k → QS g v k ∨ w.heap.size ≤ k

theorem info53 : (Tryd.prog.info? 53).map (fun i => (i.zero, i.size, i.bytes)) = some (some (.agg #[.int .i64 0, .int .i64 0, .int .i64 0, .int .i64 0]), 4, 32) := by kernel_rfl

/-- The state of wNodes between its calls: from w, with the query's slice v0, to W, with ns and v; the node b of the tree; its copy b0, under way. -/
structure Mid (ty : TypeId) (w W : World) (base g : Nat) (v0 : Value) (ns : List S53) (v : Value) (b b0 : Nat) (k n : Int) (vl vr x2 x3 : Value) : Prop where
  c : Chg (QS g v0) w W
  q : QSt W base g ns v
  o : ∀ k, QS g v k → QS g v0 k ∨ w.heap.size ≤ k
  nq : ¬ QS g v b0
  nd : W.heap[b]? = some (.cells #[.int .i64 k, .int .i64 n, vl, vr] ty (0, 0))
  cp : W.heap[b0]? = some (.cells #[.int .i64 k, .int .i64 n, x2, x3] 53 (0, 0))
  b0e : w.heap.size ≤ b0
  bl : b < w.heap.size
  t25 : ty ≠ 25
  t53 : ty ≠ 53

theorem Mid.start {ty : TypeId} {w : World} {base g : Nat} {ns : List S53} {v : Value} {b : Nat} {k n : Int} {vl vr : Value} (hq : QSt w base g ns v) (hc : w.heap[b]? = some (.cells #[.int .i64 k, .int .i64 n, vl, vr] ty (0, 0))) (t25 : ty ≠ 25) (t53 : ty ≠ 53) :
    Mid ty w (w.alloc (.cells #[.int .i64 k, .int .i64 n, .int .i64 0, .int .i64 0] 53)).drew base g v ns v b w.heap.size k n vl vr (.int .i64 0) (.int .i64 0) :=
  have hb := (Bel.alloc w (.cells #[.int .i64 k, .int .i64 n, .int .i64 0, .int .i64 0] 53)).trans (Bel.drew _)
  ⟨Chg.of_bel hb _, hq.bel hb, fun _ h => .inl h, fun h => Nat.lt_irrefl _ (hq.lt _ h), hb.heap hc, heap_alloc_new _ _, Nat.le_refl _, (Array.getElem?_eq_some_iff.1 hc).1, t25, t53⟩

section
variable {ty : TypeId} {w W : World} {base g : Nat} {v0 : Value} {ns : List S53} {v : Value} {b b0 : Nat} {k n : Int} {vl vr x2 x3 : Value}
theorem Mid.nums (h : Mid ty w W base g v0 ns v b b0 k n vl vr x2 x3) : b ≠ b0 ∧ b0 ≠ b ∧ b0 ≠ g ∧ g < W.heap.size ∧ b0 < W.heap.size :=
  have := h.b0e
  have := h.bl
  ⟨by omega, by omega, fun e => h.nq (.inl e), h.q.lt _ (.inl rfl), (Array.getElem?_eq_some_iff.1 h.cp).1⟩
theorem Mid.facts (h : Mid ty w W base g v0 ns v b b0 k n vl vr x2 x3) :
    W.cell? ⟨b0, 0, none⟩ = some (.int .i64 k) ∧ W.cell? ⟨b0, 1, none⟩ = some (.int .i64 n) ∧ W.cell? ⟨b0, 2, none⟩ = some x2 ∧ W.cell? ⟨b0, 3, none⟩ = some x3 ∧ (∀ o, W.frozen? ⟨b0, o, none⟩ = false) ∧
      W.cell? ⟨b, 0, none⟩ = some (.int .i64 k) ∧ W.cell? ⟨b, 1, none⟩ = some (.int .i64 n) ∧ W.cell? ⟨b, 2, none⟩ = some vl ∧ W.cell? ⟨b, 3, none⟩ = some vr ∧ W.cell? ⟨g, 0, none⟩ = some v ∧ W.frozen? ⟨g, 0, none⟩ = false :=
  have h1 := blk4 h.cp
  have h2 := blk4 h.nd
  have h3 := blk1 h.q.blk
  ⟨h1.1.1, h1.1.2.1, h1.1.2.2.1, h1.1.2.2.2, h1.2, h2.1.1, h2.1.2.1, h2.1.2.2.1, h2.1.2.2.2, h3.1, h3.2⟩
theorem Mid.tree (h : Mid ty w W base g v0 ns v b b0 k n vl vr x2 x3) {ns0 : List S53} (hq : QSt w base g ns0 v0) (t25 : ty ≠ 25) (t53 : ty ≠ 53) {base' : Nat} {t : RT} {u : Value} (ht : Tr ty w base' t u) : Tr ty W base' t u :=
  ht.chg h.c (hq.not_ty t25 t53)
theorem Mid.call (h : Mid ty w W base g v0 ns v b b0 k n vl vr x2 x3) {w1 : World} {ns1 : List S53} {v1 : Value} (q1 : QSt w1 base g ns1 v1) (k1 : Chg (QS g v) W w1) (o1 : ∀ k, QS g v1 k → QS g v k ∨ W.heap.size ≤ k) :
    Mid ty w w1 base g v0 ns1 v1 b b0 k n vl vr x2 x3 :=
  have hn := h.nums
  have hs := h.c.size
  ⟨h.c.trans k1 h.o, q1, fun k hk => (o1 k hk).elim (h.o k) (fun h' => .inr (Nat.le_trans hs h')), fun hk => (o1 _ hk).elim h.nq (fun h' => Nat.lt_irrefl _ (Nat.lt_of_lt_of_le hn.2.2.2.2 h')),
    k1.heap h.nd (fun hk => h.q.not_ty h.t25 h.t53 _ hk _ h.nd), k1.heap h.cp h.nq, h.b0e, h.bl, h.t25, h.t53⟩
theorem Mid.store2 (h : Mid ty w W base g v0 ns v b b0 k n vl vr x2 x3) (x : Value) : Mid ty w (W.setCell ⟨b0, 2, none⟩ x) base g v0 ns v b b0 k n vl vr x x3 :=
  have hn := h.nums
  ⟨h.c.setCell (.inr h.b0e) x, h.q.set h.nq x, h.o, h.nq, (heap_setCell_far W _ x hn.1).trans h.nd, heap_setCell_at h.cp 2 x, h.b0e, h.bl, h.t25, h.t53⟩
theorem Mid.store3 (h : Mid ty w W base g v0 ns v b b0 k n vl vr x2 x3) (x : Value) : Mid ty w (W.setCell ⟨b0, 3, none⟩ x) base g v0 ns v b b0 k n vl vr x2 x :=
  have hn := h.nums
  ⟨h.c.setCell (.inr h.b0e) x, h.q.set h.nq x, h.o, h.nq, (heap_setCell_far W _ x hn.1).trans h.nd, heap_setCell_at h.cp 3 x, h.b0e, h.bl, h.t25, h.t53⟩
theorem Mid.done (h : Mid ty w W base g v0 ns v b b0 k n vl vr x2 x3) {ns0 : List S53} (_ : QSt w base g ns0 v0) {wf : World} {vf : Value} {x : S53} (hr : Kd.R k53 53 wf base (fun _ => True) vf (ns ++ [x])) (hg : W.drew.grownBy wf v.ownBlock)
    (hat : vf.ownBlock = v.ownBlock ∨ ∃ b, vf.ownBlock = some b ∧ W.drew.heap.size ≤ b) {t : RT} {r : Int} (hp : ns ++ [x] = ns0 ++ t.post ns0.length) (hroot : r = t.root ns0.length) :
    WN w base g ns0 v0 t (.returned (.int .i64 r)) (wf.setCell ⟨g, 0, none⟩ vf) := by
  obtain ⟨q1, q2, q3⟩ := h.q.appended hr hg hat
  subst hroot
  exact ⟨_, rfl, hp ▸ q1, h.c.trans q2 h.o, fun k hk => (q3 k hk).elim (h.o k) (fun h' => .inr (Nat.le_trans h.c.size h'))⟩
end

set_option maxRecDepth 100000 in
set_option maxHeartbeats 4000000 in
theorem wNodes_any {t : RT} (hs : Sh t) : ∀ (w : World) (base g : Nat) (ns : List S53) (v u : Value), QSt w base g ns v → Tr 36 w 0 t u → ns.length + t.size ≤ 1000000 →
    Calls Tryd.prog 38 #[u, .pointer (some ⟨g, 0, none⟩)] w (WN w base g ns v t) := by
  induction hs with
  | @leaf k n h1 h6 =>
    intro w base g ns v u hq ht hsz
    obtain ⟨b, vl, vr, rfl, hb, hc, hl0, hr0⟩ := ht
    simp only [RT.size] at hsz
    obtain rfl := hl0
    obtain rfl := hr0
    obtain ⟨⟨c0, c1, c2, c3⟩, _⟩ := blk4 hc
    obtain ⟨A, cap, rfl⟩ := Kd.R_slice hq.row
    have HM := Lib.hid (Mid.start (k := k) (n := n) hq hc (by decide) (by decide))
    have HQ := Lib.hid hq
    clear hq hc
    go_enter Tryd.func38, Tryd.ntmps38
    go_wp2_with fail
    go_region_held3 (fun w' => w'.cell? ⟨b, 0, none⟩ = some (.int .i64 k) ∧ w'.cell? ⟨b, 1, none⟩ = some (.int .i64 n)) (go_keep) (fail)
    clear c0 c1 c2 c3
    generalize (w.alloc (Obj.cells #[.int .i64 k, .int .i64 n, .int .i64 0, .int .i64 0] 53)).drew = W at *
    obtain ⟨b0, hb0⟩ : ∃ b0, w.heap.size = b0 := ⟨_, rfl⟩
    rw [hb0] at HM ⊢
    have HB0 := Lib.hid hb0
    clear hb0
    obtain ⟨hbb, hbb', hgb', hgl, hbl⟩ := HM.out.nums
    obtain ⟨e0, e1, e2, e3, e4, c0, c1, c2, c3, f0, f1⟩ := HM.out.facts
    go_wp2_with fail
    have HF := Lib.hid HM.out
    obtain ⟨_, _, _, hgl, hbl⟩ := HF.out.nums
    obtain ⟨e0, e1, e2, e3, e4, c0, c1, c2, c3, f0, f1⟩ := HF.out.facts
    have HL := Lib.hid (by omega : (ns.length + 1) * 32 ≤ 140737488355328)
    go_region_law (first | ((refine Kd.R_append_step (W := W.drew) k53 base rfl (.tmp 43) (.tmp 45) 23 53 _ 32 rfl Tryd.underlying23 info53 rfl (by decide) (by decide) (.slice _ _ _) ns ⟨k, n, 0, 0⟩ _ (fun _ => True) (fun _ => False) (by simp [Act.eval]) (by simp [Act.eval]) (k53_mkM _ _ _ _) (fun _ hk => hk.elim) (fun _ _ => trivial) HF.out.q.row (Below.refl _ _) (Nat.le_trans HF.out.q.ge (Nat.le_of_lt hgl)) HL.out ?_; intro vf wf hr1 hb1 hg1 hat1; obtain ⟨Af, capf, rfl⟩ := Kd.R_slice hr1; simp only [List.length_append, List.length_cons, List.length_nil, Nat.zero_add] at hr1 hat1; obtain ⟨f2, f3⟩ := blk1 ((hg1.block g hgl (fun e => HF.out.q.g_ne e.symm)).trans HF.out.q.blk); have hr2 := Lib.hid hr1; have hg2 := Lib.hid hg1; have ht2 := Lib.hid hat1; clear hr1 hg1 hat1 hb1)))
    all_goals
      go_wp2_with fail
      go_ret
      exact HF.out.done HQ.out hr2.out hg2.out ht2.out (by simp [RT.post, RT.root]) (by simp [RT.root, RT.size])
  | @un k n l h7 h13 hl ihl =>
    intro w base g ns v u hq ht hsz
    obtain ⟨b, vl, vr, rfl, hb, hc, hl0, hr0⟩ := ht
    simp only [RT.size] at hsz
    obtain ⟨p, rfl⟩ := hl0.pointer
    obtain ⟨pa, rfl⟩ : ∃ pa, p = some pa := hl0.isPtr hl
    obtain rfl := hr0
    obtain ⟨⟨c0, c1, c2, c3⟩, _⟩ := blk4 hc
    obtain ⟨A, cap, rfl⟩ := Kd.R_slice hq.row
    have HM := Lib.hid (Mid.start (k := k) (n := n) hq hc (by decide) (by decide))
    have HQ := Lib.hid hq
    have HTL := Lib.hid hl0
    clear hl0
    clear hq hc
    go_enter Tryd.func38, Tryd.ntmps38
    go_wp2_with fail
    go_region_held3 (fun w' => w'.cell? ⟨b, 0, none⟩ = some (.int .i64 k) ∧ w'.cell? ⟨b, 1, none⟩ = some (.int .i64 n)) (go_keep) (fail)
    clear c0 c1 c2 c3
    generalize (w.alloc (Obj.cells #[.int .i64 k, .int .i64 n, .int .i64 0, .int .i64 0] 53)).drew = W at *
    obtain ⟨b0, hb0⟩ : ∃ b0, w.heap.size = b0 := ⟨_, rfl⟩
    rw [hb0] at HM ⊢
    have HB0 := Lib.hid hb0
    clear hb0
    obtain ⟨hbb, hbb', hgb', hgl, hbl⟩ := HM.out.nums
    obtain ⟨e0, e1, e2, e3, e4, c0, c1, c2, c3, f0, f1⟩ := HM.out.facts
    go_wp2_with (first | (go_at_call_of 38 (Value.pointer (some pa)); go_must (refine (ihl _ base g _ _ _ HM.out.q (HM.out.tree HQ.out (by decide) (by decide) HTL.out) (by omega)).mono ?_); rintro e w1 ⟨v1, he, q1, k1, o1⟩; obtain ⟨ns1, hns1⟩ : ∃ x, x = ns ++ l.post ns.length := ⟨_, rfl⟩; obtain ⟨x1, hx1⟩ : ∃ x, x = l.root ns.length := ⟨_, rfl⟩; rw [← hns1] at q1; rw [← hx1] at he; subst he; replace hns1 := Lib.hid hns1; replace hx1 := Lib.hid hx1; obtain ⟨A1, cap1, rfl⟩ := Kd.R_slice q1.row; have M1 := Lib.hid (HM.out.call q1 k1 o1); clear q1 k1 o1; obtain ⟨e0, e1, e2, e3, e4, c0, c1, c2, c3, f0, f1⟩ := M1.out.facts))
    have HF := Lib.hid (M1.out.store2 (.int .i64 x1))
    generalize (w1.setCell ⟨b0, 2, none⟩ (.int .i64 x1)) = W1 at *
    obtain ⟨_, _, _, hgl, hbl⟩ := HF.out.nums
    obtain ⟨e0, e1, e2, e3, e4, c0, c1, c2, c3, f0, f1⟩ := HF.out.facts
    have HL := Lib.hid (by rw [hns1.out, List.length_append, RT.post_length]; omega : (ns1.length + 1) * 32 ≤ 140737488355328)
    go_region_law (first | ((refine Kd.R_append_step (W := W1.drew) k53 base rfl (.tmp 43) (.tmp 45) 23 53 _ 32 rfl Tryd.underlying23 info53 rfl (by decide) (by decide) (.slice _ _ _) ns1 ⟨k, n, x1, 0⟩ _ (fun _ => True) (fun _ => False) (by simp [Act.eval]) (by simp [Act.eval]) (k53_mkM _ _ _ _) (fun _ hk => hk.elim) (fun _ _ => trivial) HF.out.q.row (Below.refl _ _) (Nat.le_trans HF.out.q.ge (Nat.le_of_lt hgl)) HL.out ?_; intro vf wf hr1 hb1 hg1 hat1; obtain ⟨Af, capf, rfl⟩ := Kd.R_slice hr1; simp only [List.length_append, List.length_cons, List.length_nil, Nat.zero_add] at hr1 hat1; obtain ⟨f2, f3⟩ := blk1 ((hg1.block g hgl (fun e => HF.out.q.g_ne e.symm)).trans HF.out.q.blk); have hr2 := Lib.hid hr1; have hg2 := Lib.hid hg1; have ht2 := Lib.hid hat1; clear hr1 hg1 hat1 hb1)))
    all_goals
      go_wp2_with fail
      go_ret
      exact HF.out.done HQ.out hr2.out hg2.out ht2.out (by rw [hns1.out, hx1.out]; simp [RT.post, RT.root]) (by rw [hns1.out]; simp [RT.root, RT.size, RT.post_length]; unfold wrap64; omega)
  | @bin k n l r h14 h16 hl hr ihl ihr =>
    intro w base g ns v u hq ht hsz
    obtain ⟨b, vl, vr, rfl, hb, hc, hl0, hr0⟩ := ht
    simp only [RT.size] at hsz
    obtain ⟨p, rfl⟩ := hl0.pointer
    obtain ⟨pa, rfl⟩ : ∃ pa, p = some pa := hl0.isPtr hl
    obtain ⟨q, rfl⟩ := hr0.pointer
    obtain ⟨qa, rfl⟩ : ∃ qa, q = some qa := hr0.isPtr hr
    obtain ⟨⟨c0, c1, c2, c3⟩, _⟩ := blk4 hc
    obtain ⟨A, cap, rfl⟩ := Kd.R_slice hq.row
    have HM := Lib.hid (Mid.start (k := k) (n := n) hq hc (by decide) (by decide))
    have HQ := Lib.hid hq
    have HTL := Lib.hid hl0
    clear hl0
    have HTR := Lib.hid hr0
    clear hr0
    clear hq hc
    go_enter Tryd.func38, Tryd.ntmps38
    go_wp2_with fail
    go_region_held3 (fun w' => w'.cell? ⟨b, 0, none⟩ = some (.int .i64 k) ∧ w'.cell? ⟨b, 1, none⟩ = some (.int .i64 n)) (go_keep) (fail)
    clear c0 c1 c2 c3
    generalize (w.alloc (Obj.cells #[.int .i64 k, .int .i64 n, .int .i64 0, .int .i64 0] 53)).drew = W at *
    obtain ⟨b0, hb0⟩ : ∃ b0, w.heap.size = b0 := ⟨_, rfl⟩
    rw [hb0] at HM ⊢
    have HB0 := Lib.hid hb0
    clear hb0
    obtain ⟨hbb, hbb', hgb', hgl, hbl⟩ := HM.out.nums
    obtain ⟨e0, e1, e2, e3, e4, c0, c1, c2, c3, f0, f1⟩ := HM.out.facts
    go_wp2_with (first | (go_at_call_of 38 (Value.pointer (some pa)); go_must (refine (ihl _ base g _ _ _ HM.out.q (HM.out.tree HQ.out (by decide) (by decide) HTL.out) (by omega)).mono ?_); rintro e w1 ⟨v1, he, q1, k1, o1⟩; obtain ⟨ns1, hns1⟩ : ∃ x, x = ns ++ l.post ns.length := ⟨_, rfl⟩; obtain ⟨x1, hx1⟩ : ∃ x, x = l.root ns.length := ⟨_, rfl⟩; rw [← hns1] at q1; rw [← hx1] at he; subst he; replace hns1 := Lib.hid hns1; replace hx1 := Lib.hid hx1; obtain ⟨A1, cap1, rfl⟩ := Kd.R_slice q1.row; have M1 := Lib.hid (HM.out.call q1 k1 o1); clear q1 k1 o1; obtain ⟨e0, e1, e2, e3, e4, c0, c1, c2, c3, f0, f1⟩ := M1.out.facts) | (go_at_call_of 38 (Value.pointer (some qa)); go_must (refine (ihr _ base g _ _ _ (M1.out.store2 (.int .i64 x1)).q ((M1.out.store2 (.int .i64 x1)).tree HQ.out (by decide) (by decide) HTR.out) (by rw [hns1.out, List.length_append, RT.post_length]; omega)).mono ?_); rintro e w2 ⟨v2, he, q2, k2, o2⟩; obtain ⟨ns2, hns2⟩ : ∃ x, x = ns1 ++ r.post ns1.length := ⟨_, rfl⟩; obtain ⟨x2, hx2⟩ : ∃ x, x = r.root ns1.length := ⟨_, rfl⟩; rw [← hns2] at q2; rw [← hx2] at he; subst he; replace hns2 := Lib.hid hns2; replace hx2 := Lib.hid hx2; obtain ⟨A2, cap2, rfl⟩ := Kd.R_slice q2.row; have M2 := Lib.hid ((M1.out.store2 (.int .i64 x1)).call q2 k2 o2); clear q2 k2 o2; obtain ⟨e0, e1, e2, e3, e4, c0, c1, c2, c3, f0, f1⟩ := M2.out.facts))
    have HF := Lib.hid (M2.out.store3 (.int .i64 x2))
    generalize (w2.setCell ⟨b0, 3, none⟩ (.int .i64 x2)) = W1 at *
    obtain ⟨_, _, _, hgl, hbl⟩ := HF.out.nums
    obtain ⟨e0, e1, e2, e3, e4, c0, c1, c2, c3, f0, f1⟩ := HF.out.facts
    have HL := Lib.hid (by rw [hns2.out, hns1.out]; simp only [List.length_append, RT.post_length]; omega : (ns2.length + 1) * 32 ≤ 140737488355328)
    go_region_law (first | ((refine Kd.R_append_step (W := W1.drew) k53 base rfl (.tmp 43) (.tmp 45) 23 53 _ 32 rfl Tryd.underlying23 info53 rfl (by decide) (by decide) (.slice _ _ _) ns2 ⟨k, n, x1, x2⟩ _ (fun _ => True) (fun _ => False) (by simp [Act.eval]) (by simp [Act.eval]) (k53_mkM _ _ _ _) (fun _ hk => hk.elim) (fun _ _ => trivial) HF.out.q.row (Below.refl _ _) (Nat.le_trans HF.out.q.ge (Nat.le_of_lt hgl)) HL.out ?_; intro vf wf hr1 hb1 hg1 hat1; obtain ⟨Af, capf, rfl⟩ := Kd.R_slice hr1; simp only [List.length_append, List.length_cons, List.length_nil, Nat.zero_add] at hr1 hat1; obtain ⟨f2, f3⟩ := blk1 ((hg1.block g hgl (fun e => HF.out.q.g_ne e.symm)).trans HF.out.q.blk); have hr2 := Lib.hid hr1; have hg2 := Lib.hid hg1; have ht2 := Lib.hid hat1; clear hr1 hg1 hat1 hb1)))
    all_goals
      go_wp2_with fail
      go_ret
      exact HF.out.done HQ.out hr2.out hg2.out ht2.out (by rw [hns2.out, hx2.out, hns1.out, hx1.out]; simp [RT.post, RT.post_length]) (by rw [hns2.out, hns1.out]; simp [RT.root, RT.post_length]; unfold wrap64; omega)


end Go.Proofs.YtijaoedlhmdpnaaDoor
/- wRevs walked: the nodes of a tree are gathered, in preorder. -/
namespace Go.Proofs.YtijaoedlhmdpnaaDoor
open Go.RowKit Go.Proofs.YtijaoedlhmdpnaaDoor.PTopQueriesKept Go.Proofs.YtijaoedlhmdpnaaDoorW.PrintWords

/-- Pointers. -/
def kp : Kd (Option Addr) := Kd.scalar Value.pointer (fun _ => rfl)
theorem kp_openM {w : World} {base : Nat} {ok : Nat → Prop} {x : Option Addr} {cs : List Value} (h : kp.M w base ok x cs) : cs = [.pointer x] := h
theorem kp_mkM (w : World) (base : Nat) (ok : Nat → Prop) (x : Option Addr) : kp.M w base ok x [.pointer x] := rfl
theorem info29 : (Tryd.prog.info? 29).map (fun i => (i.zero, i.size, i.bytes)) = some (some (.pointer none), 1, 8) := by kernel_rfl

/-- A slice of pointers in a variable, under way: its block g holds the slice v, which is the call's own and reads ns. -/
structure ASt (w : World) (base g : Nat) (ns : List (Option Addr)) (v : Value) : Prop where
  ge : base ≤ g
  blk : w.heap[g]? = some (.cells #[v] 32 (0, 0))
  row : Kd.R kp 29 w base (fun _ => True) v ns

theorem ASt.own_type {w : World} {base g : Nat} {ns : List (Option Addr)} {v : Value} (h : ASt w base g ns v) {k : Nat} (hk : v.ownBlock = some k) : ∃ cs, w.heap[k]? = some (.cells cs 29 (0, 0)) := by
  obtain ⟨inner, ho⟩ := Kd.R_own h.row
  exact own_typed ho k hk

/-- The blocks that an append to the query may turn. -/
def AS (g : Nat) (v : Value) (k : Nat) : Prop := k = g ∨ v.ownBlock = some k

theorem ASt.not_ty {w : World} {base g : Nat} {ns : List (Option Addr)} {v : Value} (h : ASt w base g ns v) {ty : TypeId} (h32 : ty ≠ 32) (h29 : ty ≠ 29) : ∀ k, AS g v k → ∀ cs, w.heap[k]? ≠ some (.cells cs ty (0, 0)) := by
  rintro k (rfl | hk) cs he
  · rw [h.blk] at he; injection he with he; injection he with _ e; exact h32 e.symm
  · obtain ⟨cs', h'⟩ := h.own_type hk
    rw [h'] at he; injection he with he; injection he with _ e; exact h29 e.symm

theorem ASt.g_ne {w : World} {base g : Nat} {ns : List (Option Addr)} {v : Value} (h : ASt w base g ns v) : ¬ v.ownBlock = some g := by
  intro hk
  obtain ⟨cs', h'⟩ := h.own_type hk
  rw [h.blk] at h'; injection h' with e; injection e with _ e; cases e
theorem ASt.lt {w : World} {base g : Nat} {ns : List (Option Addr)} {v : Value} (h : ASt w base g ns v) : ∀ k, AS g v k → k < w.heap.size := by
  rintro k (rfl | hk)
  · exact (Array.getElem?_eq_some_iff.1 h.blk).1
  · obtain ⟨cs', h'⟩ := h.own_type hk
    exact (Array.getElem?_eq_some_iff.1 h').1

theorem ASt.bel {w w' : World} {base g : Nat} {ns : List (Option Addr)} {v : Value} (h : ASt w base g ns v) (hw : Bel w w') : ASt w' base g ns v := ⟨h.ge, hw.heap h.blk, Kd.R_below h.row hw⟩

theorem rowp_own {w : World} {base : Nat} {ns : List (Option Addr)} {v : Value} {ok : Nat → Prop} (h : Kd.R kp 29 w base ok v ns) : Kd.R kp 29 w base (fun k => v.ownBlock = some k) v ns :=
  ⟨fun _ h => h, h.2.imp_ (fun p c hp => by obtain rfl := kp_openM hp; exact kp_mkM _ _ _ _)⟩

theorem ASt.chg {w w' : World} {base g : Nat} {ns : List (Option Addr)} {v : Value} {S : Nat → Prop} (h : ASt w base g ns v) (hw : Chg S w w') (hS : ∀ k, AS g v k → ¬ S k) : ASt w' base g ns v :=
  ⟨h.ge, hw.heap h.blk (hS g (.inl rfl)), Kd.R_mono (Kd.R_step (rowp_own h.row) (fun k hk hlt => hw.block k hlt (hS k (.inr hk)))) (fun _ _ => trivial)⟩

theorem ASt.set {w : World} {base g : Nat} {ns : List (Option Addr)} {v : Value} (h : ASt w base g ns v) {p : Addr} (hp : ¬ AS g v p.block) (u : Value) : ASt (w.setCell p u) base g ns v :=
  h.chg ((Chg.refl (fun k => k = p.block) w).setCell (.inl rfl) u) (fun _ hk he => hp (he ▸ hk))

theorem ASt.appended {W w1 : World} {base g : Nat} {ns : List (Option Addr)} {v v1 : Value} {x : Option Addr} (h : ASt W base g ns v) (hr : Kd.R kp 29 w1 base (fun _ => True) v1 (ns ++ [x])) (hg : W.drew.grownBy w1 v.ownBlock)
    (hat : v1.ownBlock = v.ownBlock ∨ ∃ b, v1.ownBlock = some b ∧ W.drew.heap.size ≤ b) :
    ASt (w1.setCell ⟨g, 0, none⟩ v1) base g (ns ++ [x]) v1 ∧ Chg (AS g v) W (w1.setCell ⟨g, 0, none⟩ v1) ∧ ∀ k, AS g v1 k → AS g v k ∨ W.heap.size ≤ k := by
  have hgl : g < W.heap.size := (Array.getElem?_eq_some_iff.1 h.blk).1
  have hb1 : w1.heap[g]? = some (.cells #[v] 32 (0, 0)) := (hg.block g hgl (fun e => h.g_ne e.symm)).trans h.blk
  have hne : ¬ v1.ownBlock = some g := by
    rcases hat with e | ⟨b, e, hb⟩
    · rw [e]; exact h.g_ne
    · rw [e]; intro e'; injection e' with e'; subst e'; exact absurd hgl (by simpa using hb)
  refine ⟨⟨h.ge, heap_setCell_at hb1 0 _, Kd.R_mono (Kd.R_step (rowp_own hr) (fun k hk _ => heap_setCell_far w1 _ _ (fun e => hne (by subst e; exact hk)))) (fun _ _ => trivial)⟩, ?_, ?_⟩
  · exact (((Chg.refl (AS g v) W).drew).grown hg (fun k hk => .inl (.inr hk))).setCell (.inl (.inl rfl)) _
  · rintro k (rfl | hk)
    · exact .inl (.inl rfl)
    · rcases hat with e | ⟨b, e, hb⟩
      · exact .inl (.inr (e ▸ hk))
      · rw [e] at hk; injection hk with hk; subst hk; exact .inr hb


theorem TrB.chg {ty : TypeId} {w w' : World} {base : Nat} {S : Nat → Prop} (hw : Chg S w w') (hS : ∀ k, S k → ∀ cs, w.heap[k]? ≠ some (.cells cs ty (0, 0))) : ∀ {t : RT} {v : Value} {bs : List Nat}, TrB ty w base t v bs → TrB ty w' base t v bs
  | .nil, _, _, h => h
  | .node _ _ _ _, _, _, ⟨b, vl, vr, bl, br, hv, hs, hb, hc, hl, hr⟩ => ⟨b, vl, vr, bl, br, hv, hs, hb, hw.heap hc (fun hk => hS b hk _ hc), hl.chg hw hS, hr.chg hw hS⟩
theorem TrB.length {ty : TypeId} {w : World} {base : Nat} : ∀ {t : RT} {v : Value} {bs : List Nat}, TrB ty w base t v bs → bs.length = t.size
  | .nil, _, _, h => by rw [h.2]; rfl
  | .node _ _ _ _, _, _, ⟨b, vl, vr, bl, br, hv, hs, hb, hc, hl, hr⟩ => by subst hs; simp [RT.size, hl.length, hr.length]

/-- The pointer i of the list that lies at A. -/
theorem at_p {w : World} {A : Option Addr} {n : Nat} {xs : List (Option Addr)} (h : Kd.C kp w A n xs) (i : Nat) (x : Option Addr) (hi : xs[i]? = some x) (h1 : i < n) :
    ∃ ad B O, A = some ad ∧ ad.add i = ⟨B, O, none⟩ ∧ B < w.heap.size ∧ w.cell? ⟨B, O, none⟩ = some (.pointer x) := by
  obtain ⟨ad, c, e, hl, hK, hc⟩ := Kd.C_get h none (i : Int) (by omega) (by omega)
  have hx : xs.getD (i : Int).toNat none = x := by simp [hi]
  rw [hx] at hK
  obtain rfl : c = [.pointer x] := hK
  have h0 := hc 0 _ rfl
  have he : ad.add ((i : Int).toNat * kp.sz + 0) = ad.add i := by
    have : kp.sz = 1 := rfl
    rw [this]; simp
  rw [he] at h0
  have hs : (ad.add i).spot = none := World.cell?_spot h0
  refine ⟨ad, (ad.add i).block, (ad.add i).off, e, by rw [← hs], World.block_lt_of_cell? _ _ h0, ?_⟩
  rw [← h0, ← hs]

/-- The pointers to the blocks bs. -/
def at0 (b : Nat) : Option Addr := some ⟨b, 0, none⟩
/-- What wRevs leaves. -/
def WR (w : World) (base g : Nat) (xs : List (Option Addr)) (v : Value) (bs : List Nat) (e : Ending) (w' : World) : Prop :=
  ∃ v', e = .returned (.tuple #[]) ∧ ASt w' base g (xs ++ bs.map at0) v' ∧ Chg (AS g v) w w' ∧ ∀ k, AS g v' k → AS g v k ∨ w.heap.size ≤ k

set_option maxRecDepth 100000 in
set_option maxHeartbeats 4000000 in
theorem wRevs_any (t : RT) : ∀ (w : World) (base g : Nat) (xs : List (Option Addr)) (v u : Value) (bs : List Nat), ASt w base g xs v → TrB 36 w 0 t u bs → xs.length + t.size ≤ 1000000 →
    Calls Tryd.prog 25 #[u, .pointer (some ⟨g, 0, none⟩)] w (WR w base g xs v bs) := by
  induction t with
  | nil =>
    intro w base g xs v u bs hq ht hsz
    obtain ⟨rfl, rfl⟩ := ht
    go_enter Tryd.func25, Tryd.ntmps25
    go_wp2_with fail
    go_end0
    exact ⟨v, rfl, by simpa using hq, Chg.refl _ _, fun _ h => .inl h⟩
  | node k n l r ihl ihr =>
    intro w base g xs v u bs hq ht hsz
    obtain ⟨b, vl, vr, bl, br, rfl, rfl, hb, hc, hl, hr⟩ := ht
    simp only [RT.size] at hsz
    obtain ⟨p, rfl⟩ := hl.tr.pointer
    obtain ⟨q, rfl⟩ := hr.tr.pointer
    obtain ⟨⟨c0, c1, c2, c3⟩, _⟩ := blk4 hc
    obtain ⟨d0, d1⟩ := blk1 hq.blk
    obtain ⟨A, cap, rfl⟩ := Kd.R_slice hq.row
    have hbl : b < w.heap.size := World.block_lt_of_cell? _ _ c0
    have hgl : g < w.heap.size := World.block_lt_of_cell? _ _ d0
    have HQ := Lib.hid hq
    have HN := Lib.hid hc
    have HTL := Lib.hid hl
    have HTR := Lib.hid hr
    have HL := Lib.hid (by omega : (xs.length + 1) * 8 ≤ 140737488355328)
    clear hq hc hl hr
    go_enter Tryd.func25, Tryd.ntmps25
    go_wp2_with (first | (at_builtin; go_must (refine Kd.R_append kp base rfl (.tmp 9) (.tmp 11) 32 29 _ 8 rfl Tryd.underlying32 info29 rfl (by decide) (by decide) (.slice A xs.length cap) xs (some ⟨b, 0, none⟩) _ (fun _ => True) (fun _ => False) (by simp [Act.eval]) (by simp [Act.eval]) (kp_mkM _ _ _ _) (fun _ hk => hk.elim) (fun _ _ => trivial) HQ.out.row (Below.refl _ _) (Nat.le_trans HQ.out.ge (Nat.le_of_lt hgl)) HL.out ?_); intro v1 w1 hr1 hb1 hg1 hat1; obtain ⟨A1, cap1, rfl⟩ := Kd.R_slice hr1; obtain ⟨f2, f3⟩ := blk1 ((hg1.block g hgl (fun e => HQ.out.g_ne e.symm)).trans HQ.out.blk); obtain ⟨⟨i0, i1, i2, i3⟩, _⟩ := blk4 ((hg1.block b hbl (fun e => HQ.out.not_ty (ty := 36) (by decide) (by decide) _ (.inr e.symm) _ HN.out)).trans HN.out); have HA := Lib.hid (HQ.out.appended hr1 ⟨hg1.os, hg1.tape, hg1.output, hg1.size, hg1.block⟩ hat1); simp only [List.length_append, List.length_cons, List.length_nil, Nat.zero_add] at HA; clear hr1 hb1 hg1 hat1; have hgb : g ≠ b := (fun e => HQ.out.not_ty (ty := 36) (by decide) (by decide) _ (.inl rfl) _ (e ▸ HN.out)); have hgb' : b ≠ g := hgb.symm) | (go_at_call_of 25 (Value.pointer p); go_must (refine (ihl _ base g _ _ _ _ HA.out.1 (HTL.out.chg HA.out.2.1 (HQ.out.not_ty (by decide) (by decide))) (by rw [List.length_append, List.length_singleton]; omega)).mono ?_); rintro e w2 ⟨v2, rfl, q2, k2, o2⟩; have HNT := Lib.hid (HQ.out.not_ty (ty := 36) (by decide) (by decide)); have HNT1 := Lib.hid (HA.out.1.not_ty (ty := 36) (by decide) (by decide)); have HN2 := Lib.hid (k2.heap (HA.out.2.1.heap HN.out (fun h => HNT.out _ h _ HN.out)) (fun h => HNT1.out _ h _ (HA.out.2.1.heap HN.out (fun h => HNT.out _ h _ HN.out)))); obtain ⟨⟨j0, j1, j2, j3⟩, _⟩ := blk4 HN2.out; have HQ2 := Lib.hid q2; have HK2 := Lib.hid k2; have HO2 := Lib.hid o2; clear q2 k2 o2) | (go_at_call_of 25 (Value.pointer q); go_must (refine (ihr _ base g _ _ _ _ HQ2.out ((HTR.out.chg HA.out.2.1 HNT.out).chg HK2.out HNT1.out) (by simp only [List.length_append, List.length_singleton, List.length_map]; rw [HTL.out.length]; omega)).mono ?_); rintro e w3 ⟨v3, rfl, q3, k3, o3⟩; have HQ3 := Lib.hid q3; have HK3 := Lib.hid k3; have HO3 := Lib.hid o3; clear q3 k3 o3))
    go_end0
    have e1 : Chg (AS g (.slice A xs.length cap)) w w2 := HA.out.2.1.trans HK2.out HA.out.2.2
    have o2 : ∀ k, AS g v2 k → AS g (.slice A xs.length cap) k ∨ w.heap.size ≤ k := fun k hk => (HO2.out k hk).elim (HA.out.2.2 k) (fun h => .inr (Nat.le_trans HA.out.2.1.size h))
    refine ⟨v3, rfl, ?_, e1.trans HK3.out o2, fun k hk => (HO3.out k hk).elim (o2 k) (fun h => .inr (Nat.le_trans e1.size h))⟩
    have := HQ3.out
    simpa [at0, List.append_assoc] using this

end Go.Proofs.YtijaoedlhmdpnaaDoor
/- One node of a tree put in another's place: plain Lean, and in memory. -/
namespace Go.Proofs.YtijaoedlhmdpnaaDoor
open Go.RowKit Go.Proofs.YtijaoedlhmdpnaaDoor.PTopQueriesKept Go.Proofs.YtijaoedlhmdpnaaDoorW.PrintWords

namespace RT
/-- The trees of all nodes, in preorder. -/
def subs : RT → List RT
  | nil => []
  | node k n l r => node k n l r :: (subs l ++ subs r)
theorem subs_length : ∀ t : RT, t.subs.length = t.size
  | nil => rfl
  | node k n l r => by simp [subs, size, subs_length l, subs_length r]
/-- u in the place of the node number i, in preorder. -/
def put : RT → RT → Nat → RT
  | nil, _, _ => nil
  | node _ _ _ _, u, 0 => u
  | node k n l r, u, i + 1 => if i < l.size then node k n (put l u i) r else node k n l (put r u (i - l.size))
end RT

/-- A node's four parts. -/
structure Sig4 (t : RT) where
  k : Int
  n : Int
  l : RT
  r : RT
  e : t = .node k n l r
theorem Sh.node {t : RT} (h : Sh t) : Nonempty (Sig4 t) := by
  cases t with
  | nil => exact absurd rfl h.ne_nil
  | node k n l r => exact ⟨⟨k, n, l, r, rfl⟩⟩

theorem Sh.sub {t : RT} (h : Sh t) : ∀ s, s ∈ t.subs → Sh s := by
  induction h with
  | leaf h1 h6 => intro s hs; simp [RT.subs] at hs; subst hs; exact .leaf h1 h6
  | un h7 h13 hl ih => intro s hs; simp [RT.subs] at hs; rcases hs with rfl | hs; exact .un h7 h13 hl; exact ih s hs
  | bin h14 h16 hl hr ihl ihr => intro s hs; simp [RT.subs] at hs; rcases hs with rfl | hs | hs; exact .bin h14 h16 hl hr; exact ihl s hs; exact ihr s hs

theorem Sh.put {t u : RT} (h : Sh t) (hu : Sh u) : ∀ i, Sh (t.put u i) := by
  induction h with
  | leaf h1 h6 =>
    intro i
    cases i with
    | zero => exact hu
    | succ i => simp only [RT.put, RT.size, Nat.not_lt_zero, if_false]; exact .leaf h1 h6
  | un h7 h13 hl ih =>
    intro i
    cases i with
    | zero => exact hu
    | succ i =>
      simp only [RT.put]
      split
      · exact .un h7 h13 (ih i)
      · exact .un h7 h13 hl
  | bin h14 h16 hl hr ihl ihr =>
    intro i
    cases i with
    | zero => exact hu
    | succ i =>
      simp only [RT.put]
      split
      · exact .bin h14 h16 (ihl i) hr
      · exact .bin h14 h16 hl (ihr _)

theorem TrB.sub {ty : TypeId} {w : World} {base : Nat} : ∀ {t : RT} {v : Value} {bs : List Nat}, TrB ty w base t v bs → ∀ (i : Nat) (s : RT), t.subs[i]? = some s → ∃ b, bs[i]? = some b ∧ Tr ty w base s (.pointer (some ⟨b, 0, none⟩))
  | .nil, _, _, _, i, s, h => by simp [RT.subs] at h
  | .node k n l r, _, _, ht@⟨b, vl, vr, bl, br, hv, hs, hb, hc, hl, hr⟩, i, s, h => by
    subst hs
    cases i with
    | zero =>
      simp [RT.subs] at h
      subst h
      exact ⟨b, rfl, b, vl, vr, rfl, hb, hc, hl.tr, hr.tr⟩
    | succ i =>
      simp only [RT.subs, List.getElem?_cons_succ] at h ⊢
      by_cases hi : i < l.size
      · rw [List.getElem?_append_left (by rw [RT.subs_length]; exact hi)] at h
        obtain ⟨b', h1, h2⟩ := hl.sub i s h
        exact ⟨b', by rw [List.getElem?_append_left (by rw [hl.length]; exact hi)]; exact h1, h2⟩
      · rw [List.getElem?_append_right (by rw [RT.subs_length]; omega), RT.subs_length] at h
        obtain ⟨b', h1, h2⟩ := hr.sub _ s h
        exact ⟨b', by rw [List.getElem?_append_right (by rw [hl.length]; omega), hl.length]; exact h1, h2⟩

/-- A tree all of whose blocks are as they were. -/
theorem Tr.far {ty : TypeId} {w w' : World} {base : Nat} (hw : ∀ k x, base ≤ k → w.heap[k]? = some x → w'.heap[k]? = some x) : ∀ {t : RT} {v : Value}, Tr ty w base t v → Tr ty w' base t v
  | .nil, _, h => h
  | .node _ _ _ _, _, ⟨b, vl, vr, hv, hb, hc, hl, hr⟩ => ⟨b, vl, vr, hv, hb, hw _ _ hb hc, hl.far hw, hr.far hw⟩
theorem TrB.far {ty : TypeId} {w w' : World} {base b0 : Nat} (hw : ∀ k, k ≠ b0 → w'.heap[k]? = w.heap[k]?) : ∀ {t : RT} {v : Value} {bs : List Nat}, TrB ty w base t v bs → b0 ∉ bs → Tr ty w' base t v
  | .nil, _, _, h, _ => h.1
  | .node _ _ _ _, _, _, ⟨b, vl, vr, bl, br, hv, hs, hb, hc, hl, hr⟩, hn => by
    subst hs
    simp only [List.mem_cons, List.mem_append, not_or] at hn
    exact ⟨b, vl, vr, hv, hb, (hw _ (fun e => hn.1 e.symm)).trans hc, hl.far hw hn.2.1, hr.far hw hn.2.2⟩

/-- The node number i is written over by the root of u: the tree reads as u in that place. -/
theorem TrB.put {ty : TypeId} {w w' : World} {base top b0 : Nat} {k n : Int} {ul ur : RT} {vul vur : Value} (hbt : base ≤ top)
    (hat : w'.heap[b0]? = some (.cells #[.int .i64 k, .int .i64 n, vul, vur] ty (0, 0))) (hw : ∀ k, k ≠ b0 → w'.heap[k]? = w.heap[k]?) (hb0 : b0 < top)
    (hul : Tr ty w top ul vul) (hur : Tr ty w top ur vur) :
    ∀ {t : RT} {v : Value} {bs : List Nat}, TrB ty w base t v bs → bs.Nodup → ∀ i, bs[i]? = some b0 → Tr ty w' base (t.put (.node k n ul ur) i) v
  | .nil, _, _, h, _, i, hi => by rw [h.2] at hi; simp at hi
  | .node k' n' l r, _, _, ⟨b, vl, vr, bl, br, hv, hs, hb, hc, hl, hr⟩, hd, i, hi => by
    subst hs
    have hkeep : ∀ k x, top ≤ k → w.heap[k]? = some x → w'.heap[k]? = some x := fun k x hk hx => (hw k (by omega)).trans hx
    obtain ⟨hn, hd'⟩ := List.nodup_cons.1 hd
    obtain ⟨hdl, hdr, hdis⟩ := List.nodup_append.1 hd'
    cases i with
    | zero =>
      simp at hi
      subst hi
      exact ⟨b, vul, vur, hv, hb, hat, (hul.far hkeep).lower hbt, (hur.far hkeep).lower hbt⟩
    | succ i =>
      simp only [List.getElem?_cons_succ] at hi
      have hne : b ≠ b0 := fun e => by subst e; exact hn (List.mem_of_getElem? hi)
      simp only [RT.put]
      by_cases hlt : i < l.size
      · rw [if_pos hlt]
        rw [List.getElem?_append_left (by rw [hl.length]; exact hlt)] at hi
        exact ⟨b, vl, vr, hv, hb, (hw _ hne).trans hc, TrB.put hbt hat hw hb0 hul hur hl hdl i hi, hr.far hw (fun hm => hdis _ (List.mem_of_getElem? hi) _ hm rfl)⟩
      · rw [if_neg hlt]
        rw [List.getElem?_append_right (by rw [hl.length]; omega), hl.length] at hi
        exact ⟨b, vl, vr, hv, hb, (hw _ hne).trans hc, hl.far hw (fun hm => hdis _ hm _ (List.mem_of_getElem? hi) rfl), TrB.put hbt hat hw hb0 hul hur hr hdr _ hi⟩

/-- A block of four cells written over. -/
theorem set4 {w : World} {b : Nat} {ty : TypeId} {a0 a1 a2 a3 : Value} (h : w.heap[b]? = some (.cells #[a0, a1, a2, a3] ty (0, 0))) (x0 x1 x2 x3 : Value) :
    ((((w.setCell ⟨b, 0, none⟩ x0).setCell ⟨b, 1, none⟩ x1).setCell ⟨b, 2, none⟩ x2).setCell ⟨b, 3, none⟩ x3).heap[b]? = some (.cells #[x0, x1, x2, x3] ty (0, 0)) ∧
    ∀ k, k ≠ b → ((((w.setCell ⟨b, 0, none⟩ x0).setCell ⟨b, 1, none⟩ x1).setCell ⟨b, 2, none⟩ x2).setCell ⟨b, 3, none⟩ x3).heap[k]? = w.heap[k]? :=
  ⟨heap_setCell_at (heap_setCell_at (heap_setCell_at (heap_setCell_at h 0 x0) 1 x1) 2 x2) 3 x3, fun k hk => by
    rw [heap_setCell_far _ _ _ hk, heap_setCell_far _ _ _ hk, heap_setCell_far _ _ _ hk, heap_setCell_far _ _ _ hk]⟩

/-- The numbers of the nodes for which f has another tree. -/
def hits (f : RT → Option RT) (ss : List RT) (m : Nat) : List Nat := (List.range m).filter fun i => (f (ss.getD i .nil)).isSome
theorem hits_succ (f : RT → Option RT) (ss : List RT) (m : Nat) : hits f ss (m + 1) = hits f ss m ++ (if (f (ss.getD m .nil)).isSome then [m] else []) := by
  unfold hits
  rw [List.range_succ, List.filter_append]
  congr 1
  rw [List.filter_cons]
  split <;> rfl

theorem hits_len (f : RT → Option RT) (ss : List RT) (m : Nat) : (hits f ss m).length ≤ m := by
  have := List.length_filter_le (fun i => (f (ss.getD i .nil)).isSome) (List.range m)
  simpa [hits] using this
theorem hits_mem {f : RT → Option RT} {ss : List RT} {m i : Nat} (h : i ∈ hits f ss m) : i < m ∧ (f (ss.getD i .nil)).isSome := by
  unfold hits at h
  obtain ⟨h1, h2⟩ := List.mem_filter.1 h
  exact ⟨List.mem_range.1 h1, h2⟩

/-- What wPut does to a tree. -/
def putAt (which : Int) (f : RT → Option RT) (t : RT) : Option RT :=
  let is := hits f t.subs t.size
  if is = [] then none else
  let i := is.getD (pick which is.length).toNat 0
  (f (t.subs.getD i .nil)).map fun u => t.put u i

/-- A call of function F through a value enters it. -/
def EntersAt (F : FuncId) : Prop := ∀ (args : Array Value) (w : World), Sem.run Tryd.prog (callFunc F args) w = .ok (.enter F args) w
theorem EntersAt.of {F : FuncId} {fn : Func} (h1 : Tryd.prog.funcs[F]? = some fn) (h2 : (fn.name == "runtime.NumGoroutine") = false) (h3 : fn.body.isNone = false) : EntersAt F := by
  intro args w
  have h2' : ¬ fn.name = "runtime.NumGoroutine" := by simpa using h2
  have h3' : ¬ fn.body = none := fun e => by rw [e] at h3; cases h3
  simp [callFunc, h1, h2', h3', go_sem]
theorem enters44 : EntersAt 44 := EntersAt.of Tryd.func44 (by kernel_rfl) (by kernel_rfl)

/-- The numbers are small. -/
def NN : RT → Prop
  | .nil => True
  | .node _ n l r => 0 ≤ n ∧ n ≤ 100000 ∧ NN l ∧ NN r
theorem NN.sub : ∀ {t : RT}, NN t → ∀ s, s ∈ t.subs → NN s
  | .nil, _, s, hs => by cases hs
  | .node k n l r, h, s, hs => by
    simp only [RT.subs, List.mem_cons, List.mem_append] at hs
    rcases hs with rfl | hs | hs
    · exact h
    · exact h.2.2.1.sub s hs
    · exact h.2.2.2.sub s hs

/-- What a function on trees (a closure) does: F with the captured caps; w0: the world in which it was made, of which nothing has turned. -/
def ByPost (w : World) (base : Nat) (r : Option RT) (e : Ending) (w' : World) : Prop :=
  ∃ p, e = .returned (.pointer p) ∧ Bel w w' ∧ (match r with | none => p = none | some u => Tr 36 w' base u (.pointer p))
def ByC (w0 : World) (F : FuncId) (caps : Array Value) (f : RT → Option RT) : Prop :=
  ∀ (t : RT) (p : Option Addr) (w : World) (base : Nat), Bel w0 w → Sh t → NN t → Tr 36 w base t (.pointer p) → base ≤ w.heap.size → Calls Tryd.prog F (#[.pointer p] ++ caps) w (ByPost w base (f t))

def NoPost (w : World) (e : Ending) (w' : World) : Prop := e = .returned (.pointer none) ∧ Bel w w'
def YesPost (w : World) (base : Nat) (u : RT) (e : Ending) (w' : World) : Prop := ∃ a, e = .returned (.pointer (some a)) ∧ Tr 36 w' base u (.pointer (some a)) ∧ Bel w w'
theorem ByC.no {w0 : World} {F : FuncId} {caps : Array Value} {f : RT → Option RT} (h : ByC w0 F caps f) {t : RT} (hf : f t = none) {p : Option Addr} {w : World} {base : Nat} (hw : Bel w0 w) (hs : Sh t) (hnn : NN t) (ht : Tr 36 w base t (.pointer p)) (hb : base ≤ w.heap.size) :
    Calls Tryd.prog F (#[.pointer p] ++ caps) w (NoPost w) :=
  (h t p w base hw hs hnn ht hb).mono fun e w' ⟨q, he, hb', hm⟩ => by
    rw [hf] at hm
    have hm' : q = none := hm
    subst hm'
    exact ⟨he, hb'⟩
theorem ByC.yes {w0 : World} {F : FuncId} {caps : Array Value} {f : RT → Option RT} (h : ByC w0 F caps f) {t u : RT} (hf : f t = some u) (hu : Sh u) {p : Option Addr} {w : World} {base : Nat} (hw : Bel w0 w) (hs : Sh t) (hnn : NN t) (ht : Tr 36 w base t (.pointer p)) (hb : base ≤ w.heap.size) :
    Calls Tryd.prog F (#[.pointer p] ++ caps) w (YesPost w base u) :=
  (h t p w base hw hs hnn ht hb).mono fun e w' ⟨q, he, hb', hm⟩ => by
    rw [hf] at hm
    have hm' : Tr 36 w' base u (.pointer q) := hm
    obtain ⟨a, rfl⟩ := hm'.isPtr hu
    exact ⟨a, he, hm', hb'⟩
/-- What a change does to a tree. -/
def ChPost (w : World) (base : Nat) (v : Value) (r : Option RT) (e : Ending) (w' : World) : Prop :=
  Chg (fun k => base ≤ k) w w' ∧ (match r with | none => e = .returned (.bool false) | some u => e = .returned (.bool true) ∧ Sh u ∧ Tr 36 w' base u v)
def ChC (w0 : World) (F : FuncId) (caps : Array Value) (g : RT → Option RT) : Prop :=
  ∀ (t : RT) (v : Value) (bs : List Nat) (w : World) (base : Nat), Bel w0 w → w0.heap.size ≤ base → base ≤ w.heap.size → Sh t → NN t → t.size ≤ 1000 → TrB 36 w base t v bs → bs.Nodup → Calls Tryd.prog F (#[v] ++ caps) w (ChPost w base v (g t))

end Go.Proofs.YtijaoedlhmdpnaaDoor
/- Histories: what Validate lets through, and one step to the parents or the children: plain Lean over the printed functions. -/
namespace Go.Proofs.YtijaoedlhmdpnaaDoor
open Go.RowKit Go.Proofs.YtijaoedlhmdpnaaDoor.PTopQueriesKept Go.Proofs.YtijaoedlhmdpnaaDoorW.PrintWords

/-- The parents of commit i. -/
def pars (cs : List S51) (i : Nat) : List Int := (cs.getD i z51).f0
/-- At most 60 commits; each has at most three parents, all of them elder. -/
def VH (cs : List S51) : Prop := cs.length ≤ 60 ∧ ∀ i, i < cs.length → (pars cs i).length ≤ 3 ∧ ∀ p, p ∈ pars cs i → 0 ≤ p ∧ p < (i : Int)

theorem wrap_nat (n : Nat) (h : n < 1000000) : wrap64 ((n : Int) + 1) = ((n + 1 : Nat) : Int) := by unfold wrap64; omega
theorem rd_T51_nat (cs : List S51) (i : Nat) : rd_T51 cs (i : Int) = cs.getD i z51 := by simp [rd_T51]
theorem rd_nat (xs : List Int) (i : Nat) : rd xs (i : Int) = xs.getD i 0 := by simp [rd]
theorem rdOf_nat' (xs : List Bool) (i : Nat) : rdOf false xs (i : Int) = xs.getD i false := by simp [rdOf]

/-! ### without -/
def withoutF (a b : List Bool) : List Bool := List.zipWith (fun x y => x && !y) a b


/-! ### one step -/
/-- Behind the parents ps of commit i. -/
def stepIn (up : Bool) (xs : List Bool) (i : Nat) : List Int → List Bool → List Bool
  | [], out => out
  | p :: ps, out => stepIn up xs i ps (if up = true then out.set p.toNat (out.getD p.toNat false || xs.getD i false) else out.set i (out.getD i false || xs.getD p.toNat false))
/-- Behind the commits from i on. -/
def stepFrom (up : Bool) (cs : List S51) (xs : List Bool) : Nat → Nat → List Bool → List Bool
  | 0, _, out => out
  | d + 1, i, out => stepFrom up cs xs d (i + 1) (stepIn up xs i (pars cs i) out)
def stepF (up : Bool) (cs : List S51) (xs : List Bool) : List Bool := stepFrom up cs xs cs.length 0 (List.replicate cs.length false)

theorem stepIn_length (up : Bool) (xs : List Bool) (i : Nat) : ∀ (ps : List Int) (out : List Bool), (stepIn up xs i ps out).length = out.length
  | [], _ => rfl
  | p :: ps, out => by
    simp only [stepIn]
    rw [stepIn_length up xs i ps]
    split <;> simp
theorem stepFrom_length (up : Bool) (cs : List S51) (xs : List Bool) : ∀ (d i : Nat) (out : List Bool), (stepFrom up cs xs d i out).length = out.length
  | 0, _, _ => rfl
  | d + 1, i, out => by simp only [stepFrom]; rw [stepFrom_length up cs xs d, stepIn_length]
theorem stepF_length (up : Bool) (cs : List S51) (xs : List Bool) : (stepF up cs xs).length = cs.length := by simp [stepF, stepFrom_length]

/-! ### what history.Validate lets through -/
/-- The parents of commit i are right. -/
def okc (cs : List S51) (i : Nat) : Prop := (pars cs i).length ≤ 3 ∧ ∀ p, p ∈ pars cs i → 0 ≤ p ∧ p < (i : Int)
/-- An answer: none, and then P, or a fault with a code. -/
def Ans (P : Prop) (r : Int × Int) : Prop := (r = (0, 0) ∧ P) ∨ r.1 ≠ 0
theorem Ans.mono {P Q : Prop} {r : Int × Int} (h : Ans P r) (hpq : P → Q) : Ans Q r := h.imp (fun h => ⟨h.1, hpq h.2⟩) id

theorem hist_j4 (cs : List S51) (len : Int) (i : Nat) (hi : i < 60) (R : Prop) (H : ∃ k r, history_Validate.l0 k cs len ((i + 1 : Nat) : Int) = some r ∧ Ans R r) (b : Bool) (x0 : List Int) (x1 x2 x3 : Int) (x4 : ByteArray) :
    ∃ k r, history_Validate.j4 k (i : Int) cs len (i : Int) b x0 x1 x2 x3 x4 = some r ∧ Ans R r := by
  obtain ⟨k, r, hk, hr⟩ := H
  cases b with
  | true => exact ⟨1, (3, (i : Int)), by rw [history_Validate.j4, if_pos rfl], .inr (by simp)⟩
  | false =>
    by_cases hs : (x4.size : Int) > 80
    · exact ⟨1, (10, (i : Int)), by rw [history_Validate.j4, if_neg (by simp), if_pos hs], .inr (by simp)⟩
    · exact ⟨k + 1, r, by rw [history_Validate.j4, if_neg (by simp), if_neg hs, wrap_nat i (by omega)]; exact hk, hr⟩
theorem hist_j3 (cs : List S51) (len : Int) (i : Nat) (hi : i < 60) (R : Prop) (H : ∃ k r, history_Validate.l0 k cs len ((i + 1 : Nat) : Int) = some r ∧ Ans R r) (b : Bool) (x0 : List Int) (x1 x2 x3 : Int) (x4 : ByteArray) :
    ∃ k r, history_Validate.j3 k (i : Int) cs len (i : Int) b x0 x1 x2 x3 x4 = some r ∧ Ans R r := by
  have go : ∀ b', ∃ k r, history_Validate.j4 k (i : Int) cs len (i : Int) b' x0 x1 x2 x3 x4 = some r ∧ Ans R r := fun b' => hist_j4 cs len i hi R H b' x0 x1 x2 x3 x4
  cases b with
  | true =>
    obtain ⟨k, r, hk, hr⟩ := go true
    exact ⟨k + 1, r, by rw [history_Validate.j3, if_pos rfl]; exact hk, hr⟩
  | false =>
    by_cases h1 : x2 < 0
    · obtain ⟨k, r, hk, hr⟩ := go true
      exact ⟨k + 1, r, by rw [history_Validate.j3, if_neg (by simp), if_pos h1]; exact hk, hr⟩
    by_cases h2 : x2 > 100000
    · obtain ⟨k, r, hk, hr⟩ := go (decide (x2 > 100000))
      exact ⟨k + 1, r, by rw [history_Validate.j3, if_neg (by simp), if_neg h1, if_pos h2]; exact hk, hr⟩
    by_cases h3 : x3 < 0
    · obtain ⟨k, r, hk, hr⟩ := go true
      exact ⟨k + 1, r, by rw [history_Validate.j3, if_neg (by simp), if_neg h1, if_neg h2, if_pos h3]; exact hk, hr⟩
    obtain ⟨k, r, hk, hr⟩ := go (decide (x3 ≥ 2305843009213693951))
    exact ⟨k + 1, r, by rw [history_Validate.j3, if_neg (by simp), if_neg h1, if_neg h2, if_neg h3]; exact hk, hr⟩
theorem hist_inner (cs : List S51) (len : Int) (i : Nat) (hi : i < 60) (R : Prop) (H : ∃ k r, history_Validate.l0 k cs len ((i + 1 : Nat) : Int) = some r ∧ Ans R r) (ps : List Int) (hps : ps.length ≤ 3) (x1 x2 x3 : Int) (x4 : ByteArray) :
    ∀ (d j : Nat), ps.length - j = d → j ≤ ps.length →
      ∃ k r, history_Validate.l1 k (i : Int) cs len (i : Int) ps (ps.length : Int) (j : Int) ps x1 x2 x3 x4 = some r ∧ Ans ((∀ p, p ∈ ps.drop j → 0 ≤ p ∧ p < (i : Int)) ∧ R) r := by
  intro d
  induction d with
  | zero =>
    intro j hd hj
    obtain rfl : j = ps.length := by omega
    have fin : ∀ b, ∃ k r, history_Validate.j3 k (i : Int) cs len (i : Int) b ps x1 x2 x3 x4 = some r ∧ Ans R r := fun b => hist_j3 cs len i hi R H b ps x1 x2 x3 x4
    by_cases h1 : x1 < 0
    · obtain ⟨k, r, hk, hr⟩ := fin true
      exact ⟨k + 1, r, by rw [history_Validate.l1, if_neg (by omega), if_pos h1]; exact hk, hr.mono fun h => ⟨by simp, h⟩⟩
    · obtain ⟨k, r, hk, hr⟩ := fin (decide (x1 > 7))
      exact ⟨k + 1, r, by rw [history_Validate.l1, if_neg (by omega), if_neg h1]; exact hk, hr.mono fun h => ⟨by simp, h⟩⟩
  | succ d ih =>
    intro j hd hj
    have hlt : j < ps.length := by omega
    have hget : ps.getD j 0 = ps[j] := by simp [hlt]
    obtain ⟨k, r, hk, hr⟩ := ih (j + 1) (by omega) (by omega)
    have J : ∀ b : Bool, (b = false → 0 ≤ ps[j] ∧ ps[j] < (i : Int)) → ∃ k r, history_Validate.j2 k (i : Int) (j : Int) ps[j] cs len (i : Int) ps (ps.length : Int) (j : Int) b ps x1 x2 x3 x4 = some r ∧ Ans ((∀ p, p ∈ ps.drop j → 0 ≤ p ∧ p < (i : Int)) ∧ R) r := by
      intro b hb
      cases b with
      | true => exact ⟨1, (3, (i : Int)), by rw [history_Validate.j2, if_pos rfl], .inr (by simp)⟩
      | false =>
        have hr' : Ans ((∀ p, p ∈ ps.drop j → 0 ≤ p ∧ p < (i : Int)) ∧ R) r := hr.mono fun h => by
          refine ⟨?_, h.2⟩
          rw [List.drop_eq_getElem_cons hlt]
          intro p hp
          rcases List.mem_cons.1 hp with rfl | hp
          · exact hb rfl
          · exact h.1 p hp
        by_cases hj0 : j = 0
        · subst hj0
          exact ⟨k + 1, r, by rw [history_Validate.j2, if_neg (by simp), if_neg (by simp), wrap_nat 0 (by omega)]; exact hk, hr'⟩
        · have hw : wrap64 ((j : Int) - 1) = ((j - 1 : Nat) : Int) := by unfold wrap64; omega
          by_cases hm : rd ps ((j - 1 : Nat) : Int) ≥ ps[j]
          · exact ⟨1, (5, (i : Int)), by rw [history_Validate.j2, if_neg (by simp), if_pos (by omega), hw, if_pos (by omega), if_pos (by omega), if_pos hm], .inr (by simp)⟩
          · exact ⟨k + 1, r, by rw [history_Validate.j2, if_neg (by simp), if_pos (by omega), hw, if_pos (by omega), if_pos (by omega), if_neg hm, wrap_nat j (by omega)]; exact hk, hr'⟩
    by_cases hn : ps[j] < 0
    · obtain ⟨k, r, hk, hr⟩ := J true (by simp)
      exact ⟨k + 1, r, by rw [history_Validate.l1, if_pos (by omega), if_pos (by omega), if_pos (by omega), rd_nat, hget, if_pos hn]; exact hk, hr⟩
    · obtain ⟨k, r, hk, hr⟩ := J (decide (ps[j] ≥ (i : Int))) (fun h => ⟨by omega, by simpa using h⟩)
      exact ⟨k + 1, r, by rw [history_Validate.l1, if_pos (by omega), if_pos (by omega), if_pos (by omega), rd_nat, hget, if_neg hn]; exact hk, hr⟩
theorem hist_outer (cs : List S51) (hn : cs.length ≤ 60) : ∀ (d i : Nat), cs.length - i = d → i ≤ cs.length → ∃ k r, history_Validate.l0 k cs (cs.length : Int) (i : Int) = some r ∧ Ans (∀ i', i ≤ i' → i' < cs.length → okc cs i') r := by
  intro d
  induction d with
  | zero =>
    intro i hd hi
    exact ⟨1, (0, 0), by rw [history_Validate.l0, if_neg (by omega)], .inl ⟨rfl, fun i' h1 h2 => by omega⟩⟩
  | succ d ih =>
    intro i hd hi
    have hlt : i < cs.length := by omega
    have H := ih (i + 1) (by omega) (by omega)
    by_cases h3 : (((cs.getD i z51).f0).length : Int) > 3
    · exact ⟨1, (2, (i : Int)), by rw [history_Validate.l0, if_pos (by omega), if_pos (by omega), if_pos (by omega), rd_T51_nat, if_pos h3], .inr (by simp)⟩
    · obtain ⟨k, r, hk, hr⟩ := hist_inner cs (cs.length : Int) i (by omega) _ H (cs.getD i z51).f0 (by omega) (cs.getD i z51).f1 (cs.getD i z51).f2 (cs.getD i z51).f3 (cs.getD i z51).f4 (cs.getD i z51).f0.length 0 (by omega) (by omega)
      refine ⟨k + 1, r, by rw [history_Validate.l0, if_pos (by omega), if_pos (by omega), if_pos (by omega), rd_T51_nat, if_neg h3]; exact hk, hr.mono fun h => ?_⟩
      intro i' h1 h2
      by_cases he : i' = i
      · subst he
        exact ⟨by unfold pars; omega, fun p hp => h.1 p (by rw [List.drop_zero]; exact hp)⟩
      · exact h.2 i' (by omega) h2
/-- history.Validate answers, and finds nothing wrong in valid histories alone. -/
theorem hist_f (cs : List S51) : ∃ k r, history_Validate.f k cs = some r ∧ Ans (VH cs) r := by
  by_cases hn : (cs.length : Int) > 60
  · exact ⟨0, (2, -1), by unfold history_Validate.f; rw [if_pos hn], .inr (by simp)⟩
  · obtain ⟨k, r, hk, hr⟩ := hist_outer cs (by omega) cs.length 0 (by omega) (by omega)
    exact ⟨k, r, by unfold history_Validate.f; rw [if_neg hn]; exact hk, hr.mono fun h => ⟨by omega, fun i hi => h i (by omega) hi⟩⟩

end Go.Proofs.YtijaoedlhmdpnaaDoor
/- slices.Backward over a history: its maker's and its closure's contracts. -/
namespace Go.Proofs.YtijaoedlhmdpnaaDoor
open Go.RowKit Go.Shelf Go.Proofs.YtijaoedlhmdpnaaDoor.PTopQueriesKept Go.Proofs.YtijaoedlhmdpnaaDoorW.PrintWords

attribute [local go_sem] Oper.semAt_some

/-- Commit i of the history at A lies in w; its parents' slice is (P, c). -/
def CAt (w : World) (A : Option Addr) (cs : List S51) (i : Nat) (P : Option Addr) (c : Nat) : Prop :=
  ∃ ad, A = some ad ∧ w.cell? (ad.add (i * 5)) = some (.slice P (cs.getD i z51).f0.length c) ∧ w.cell? ⟨(ad.add (i * 5)).block, (ad.add (i * 5)).off + 1, none⟩ = some (.int .i64 (cs.getD i z51).f1) ∧ w.cell? ⟨(ad.add (i * 5)).block, (ad.add (i * 5)).off + 2, none⟩ = some (.int .i64 (cs.getD i z51).f2) ∧ w.cell? ⟨(ad.add (i * 5)).block, (ad.add (i * 5)).off + 3, none⟩ = some (.int .i64 (cs.getD i z51).f3) ∧ w.cell? ⟨(ad.add (i * 5)).block, (ad.add (i * 5)).off + 4, none⟩ = some (.string (cs.getD i z51).f4) ∧ (cs.getD i z51).f0.length ≤ c ∧ (Kd.int .i64).C w P (cs.getD i z51).f0.length (cs.getD i z51).f0

theorem cAt_of {w : World} {A : Option Addr} {cs : List S51} (h : Kd.C k51 w A cs.length cs) (i : Nat) (hi : i < cs.length) : ∃ P c, CAt w A cs i P c := by
  obtain ⟨ad, P, c, e, h0, h1, h2, h3, h4, h5, h6⟩ := at_T51 h (i : Int) (by omega) (by omega)
  rw [rd_T51_nat] at *
  exact ⟨P, c, ad, e, h0, h1, h2, h3, h4, h5, h6⟩
theorem cAt_all {w : World} {A : Option Addr} {cs : List S51} (h : Kd.C k51 w A cs.length cs) : ∃ (P : Nat → Option Addr) (c : Nat → Nat), ∀ i, i < cs.length → CAt w A cs i (P i) (c i) := by
  have h1 : ∀ i, ∃ Pc : Option Addr × Nat, i < cs.length → CAt w A cs i Pc.1 Pc.2 := fun i => by
    by_cases hi : i < cs.length
    · obtain ⟨P, c, hc⟩ := cAt_of h i hi
      exact ⟨(P, c), fun _ => hc⟩
    · exact ⟨(none, 0), fun h => absurd h hi⟩
  obtain ⟨f, hf⟩ := Classical.axiomOfChoice h1
  exact ⟨fun i => (f i).1, fun i => (f i).2, hf⟩

/-- The value of commit i. -/
def cval (cs : List S51) (i : Nat) (P : Option Addr) (c : Nat) : Value :=
  .agg #[.slice P (cs.getD i z51).f0.length c, .int .i64 (cs.getD i z51).f1, .int .i64 (cs.getD i z51).f2, .int .i64 (cs.getD i z51).f3, .string (cs.getD i z51).f4]

/-- What a round of the loop keeps: what lay at the beginning, and the iterator's box. -/
def KpB (n₀ Bs : Nat) (W W' : World) : Prop := Below n₀ W W' ∧ ∀ v, W.cell? ⟨Bs, 0, none⟩ = some v → W'.cell? ⟨Bs, 0, none⟩ = some v
theorem KpB.refl (n₀ Bs : Nat) (W : World) : KpB n₀ Bs W W := ⟨Below.refl _ _, fun _ h => h⟩
theorem KpB.trans {n₀ Bs : Nat} {A B C : World} (h : KpB n₀ Bs A B) (k : KpB n₀ Bs B C) : KpB n₀ Bs A C := ⟨h.1.trans k.1, fun v hv => k.2 v (h.2 v hv)⟩

/-- The indices, from the last one down, k of them. -/
def downN (len k : Nat) : List Nat := ((List.range len).reverse).take k

theorem down_take (n k : Nat) (hk : k < n) : ((List.range n).reverse).take (n - k) = ((List.range n).reverse).take (n - (k + 1)) ++ [k] := by
  have h : n - k = (n - (k + 1)) + 1 := by omega
  rw [h, List.take_add_one]
  congr 1
  rw [List.getElem?_reverse (by simp; omega), List.length_range, List.getElem?_range (by omega)]
  have : n - 1 - (n - (k + 1)) = k := by omega
  rw [this]; rfl

set_option maxRecDepth 100000 in
set_option maxHeartbeats 2000000 in
/-- slices.Backward's closure, for every loop body that keeps what lay at the beginning and the box. -/
theorem back1_in (F : Fence) (n : Nat) (h76 : F.fn 76) (hro : F.round = none) (hn : 1 ≤ n) (l Bs cap : Nat) (A : Option Addr) (cs : List S51) (hlen : cs.length ≤ 60) (w0 : World) (P : Nat → Option Addr) (c : Nat → Nat) (hA : ∀ i, i < cs.length → CAt w0 A cs i (P i) (c i))
    (J Jx : List { i : Nat // i < cs.length } → World → Prop)
    (hY : ∀ pre x W, J pre W → pre.length < cs.length → YieldAt F (n - 1) Tryd.prog l #[.int .i64 (x.1 : Int), cval cs x.1 (P x.1) (c x.1)] W fun e W' =>
      (e = .returned (.bool true) ∧ J (pre ++ [x]) W' ∧ KpB w0.heap.size Bs W W') ∨ (e = .returned (.bool false) ∧ Jx (pre ++ [x]) W'))
    (W : World) (hW : Below w0.heap.size w0 W) (hBs : W.cell? ⟨Bs, 0, none⟩ = some (.slice A cs.length cap)) (h0 : J [] W) :
    CallsIn F n Tryd.prog 76 #[.func (.yield l) #[] #[], .pointer (some ⟨Bs, 0, none⟩)] W fun e W' => (∃ v, e = .returned v) ∧
      ((∃ ys, ys.map (·.1) = (List.range cs.length).reverse ∧ J ys W') ∨ (∃ pre, Jx pre W')) := by
  refine callsIn_of_wp Tryd.func76 rfl h76 ?_ hro
  simp only [Tryd.ntmps76, List.size_toArray, List.length_cons, List.length_nil, Nat.reduceAdd, Nat.reduceSub, Array.replicate_succ, Array.replicate_zero, List.push_toArray, List.append_toArray, List.nil_append, List.cons_append]
  gi_wp2
  gi_loopw [3] (fun i wr => ∃ (k : Nat) (pre : List { i : Nat // i < cs.length }), k ≤ cs.length ∧ i = .int .i64 ((k : Int) - 1) ∧ pre.map (·.1) = ((List.range cs.length).reverse).take (cs.length - k) ∧ J pre wr ∧ KpB w0.heap.size Bs W wr)
    (fun i _ => (intOf i + 1).toNat)
  case atStart => exact ⟨cs.length, [], Nat.le_refl _, by first | rfl | (congr 1; unfold wrap64; omega), by simp, h0, KpB.refl _ _ _⟩
  case round =>
    obtain ⟨k, pre, hk, rfl, hp, hJs, hnx⟩ := hrel
    have hbx := hnx.2 _ hBs
    cases k with
    | zero =>
      gi_wp2
      go_end0
      exact ⟨⟨_, rfl⟩, .inl ⟨pre, by rw [hp]; exact List.take_of_length_le (by simp), hJs⟩⟩
    | succ k =>
      obtain ⟨fn, tmps, assign, body, hy, hR⟩ := hY pre ⟨k, by omega⟩ wr hJs (by have := congrArg List.length hp; simp at this; omega)
      obtain ⟨ad, rfl, hx0, hx1, hx2, hx3, hx4, _, _⟩ := hA k (by omega)
      have hwr := hW.trans hnx.1
      replace hx0 := (hwr.cell (World.block_lt_of_cell? w0 _ hx0)).trans hx0
      replace hx1 := (hwr.cell (World.block_lt_of_cell? w0 _ hx1)).trans hx1
      replace hx2 := (hwr.cell (World.block_lt_of_cell? w0 _ hx2)).trans hx2
      replace hx3 := (hwr.cell (World.block_lt_of_cell? w0 _ hx3)).trans hx3
      replace hx4 := (hwr.cell (World.block_lt_of_cell? w0 _ hx4)).trans hx4
      simp only [cval, List.getD_eq_getElem?_getD] at hy
      have e1 : (((k + 1 : Nat) : Int) - 1) = (k : Int) := by omega
      rw [e1]
      gi_wp2
      refine hR.mono ?_
      rintro e W3 (⟨rfl, hJ3, hk3⟩ | ⟨rfl, hJx3⟩)
      · gi_wp2
        go_roundw
        case rel =>
          refine ⟨k, pre ++ [⟨k, by omega⟩], by omega, rfl, ?_, hJ3, hnx.trans hk3⟩
          rw [List.map_append, hp, List.map_singleton]
          exact (down_take cs.length k (by omega)).symm
        case measure => simp [intOf]
      · gi_wp2
        refine bodyPost_ret (results_none rfl _ _ _) rfl ?_
        exact ⟨⟨_, rfl⟩, .inr ⟨_, hJx3⟩⟩

set_option maxHeartbeats 1000000 in
/-- slices.Backward(s): the slice value is boxed; the function value captures the box. -/
theorem back_in (F : Fence) (n : Nat) (h68 : F.fn 68) (hro : F.round = none) (a : Option Addr) (len cap : Nat) (w : World) :
    CallsIn F n Tryd.prog 68 #[.slice a len cap] w fun e w' => e = .returned (.func (.func 76) #[] #[.pointer (some ⟨w.heap.size, 0, none⟩)]) ∧ w' = w.alloc (.cells #[.slice a len cap] 22) := by
  refine callsIn_of_wp Tryd.func68 rfl h68 ?_ hro
  simp only [Tryd.ntmps68, List.size_toArray, List.length_cons, List.length_nil, Nat.reduceAdd, Nat.reduceSub, Array.replicate_succ, Array.replicate_zero, List.push_toArray, List.append_toArray, List.nil_append, List.cons_append]
  gi_wp2
  go_ret
  exact ⟨rfl, rfl⟩

theorem back_stops (F : Fence) (n : Nat) (h76 : F.fn 76) (hro : F.round = none) (hn : 1 ≤ n) (Bs cap : Nat) (A : Option Addr) (cs : List S51) (hlen : cs.length ≤ 60) (w0 : World) (P : Nat → Option Addr) (c : Nat → Nat) (hA : ∀ i, i < cs.length → CAt w0 A cs i (P i) (c i))
    (w : World) (hw : Below w0.heap.size w0 w) (hBs : Bs < w.heap.size) (hc : w.cell? ⟨Bs, 0, none⟩ = some (.slice A cs.length cap)) :
    SeqStopsK F n Tryd.prog 76 #[.pointer (some ⟨Bs, 0, none⟩)] (fun x : { i : Nat // i < cs.length } => #[Value.int .i64 (x.1 : Int), cval cs x.1 (P x.1) (c x.1)]) (KpB w0.heap.size Bs) (fun ys => ys.map (·.1) = (List.range cs.length).reverse) (fun _ => True) cs.length w := fun l J Jx W hW _ _ hY h0 => by
  have hc' := (hW.cell (p := ⟨Bs, 0, none⟩) hBs).trans hc
  refine (back1_in F n h76 hro hn l Bs cap A cs hlen w0 P c hA J Jx hY W (hw.trans (hW.mono hw.size)) hc' h0).mono ?_
  rintro e W' ⟨he, h | ⟨pre, h⟩⟩
  · exact ⟨he, .inl h⟩
  · exact ⟨he, .inr ⟨pre, trivial, h⟩⟩

end Go.Proofs.YtijaoedlhmdpnaaDoor
namespace Go.Proofs
open Go.Shelf
def Tryd.lays172_ren : Go.Shelf.Ren := ⟨fun | 172 => 78 | 244 => 84 | 245 => 85 | 247 => 92 | 279 => 93 | 280 => 94 | 281 => 95 | 282 => 96 | 287 => 103 | 316 => 104 | 171 => 58 | 205 => 105 | 321 => 108 | 322 => 109 | 243 => 69 | 246 => 77 | 283 => 80 | 284 => 81 | 285 => 82 | 286 => 83 | 129 => 88 | 317 => 87 | 318 => 89 | 319 => 90 | 320 => 91 | 337 => 101 | 338 => 102 | n => n, fun | 9 => 9 | 3 => 3 | 75 => 113 | 76 => 114 | 4 => 4 | 5 => 5 | 167 => 129 | 37 => 120 | 0 => 0 | 85 => 130 | 2 => 2 | 168 => 132 | 53 => 107 | 175 => 137 | 46 => 64 | 210 => 141 | 127 => 147 | 145 => 150 | 143 => 148 | 21 => 21 | 171 => 117 | 173 => 121 | 212 => 125 | 51 => 104 | 20 => 20 | 213 => 126 | 232 => 144 | 233 => 145 | 80 => 151 | n => n, fun | 15 => 3 | 16 => 4 | 17 => 1 | 18 => 5 | 19 => 6 | n => n⟩
theorem Tryd.lays172 : Go.Proofs.Lays.n172 Tryd.prog Tryd.lays172_ren := {
  mixed := by kernel_rfl
  f129 := Tryd.func88.trans (congrArg some (by kernel_rfl))
  f171 := Tryd.func58.trans (congrArg some (by kernel_rfl))
  f172 := Tryd.func78.trans (congrArg some (by kernel_rfl))
  f205 := Tryd.func105.trans (congrArg some (by kernel_rfl))
  f243 := Tryd.func69.trans (congrArg some (by kernel_rfl))
  f244 := Tryd.func84.trans (congrArg some (by kernel_rfl))
  f245 := Tryd.func85.trans (congrArg some (by kernel_rfl))
  f246 := Tryd.func77.trans (congrArg some (by kernel_rfl))
  f247 := Tryd.func92.trans (congrArg some (by kernel_rfl))
  f279 := Tryd.func93.trans (congrArg some (by kernel_rfl))
  f280 := Tryd.func94.trans (congrArg some (by kernel_rfl))
  f281 := Tryd.func95.trans (congrArg some (by kernel_rfl))
  f282 := Tryd.func96.trans (congrArg some (by kernel_rfl))
  f283 := Tryd.func80.trans (congrArg some (by kernel_rfl))
  f284 := Tryd.func81.trans (congrArg some (by kernel_rfl))
  f285 := Tryd.func82.trans (congrArg some (by kernel_rfl))
  f286 := Tryd.func83.trans (congrArg some (by kernel_rfl))
  f287 := Tryd.func103.trans (congrArg some (by kernel_rfl))
  f316 := Tryd.func104.trans (congrArg some (by kernel_rfl))
  f317 := Tryd.func87.trans (congrArg some (by kernel_rfl))
  f318 := Tryd.func89.trans (congrArg some (by kernel_rfl))
  f319 := Tryd.func90.trans (congrArg some (by kernel_rfl))
  f320 := Tryd.func91.trans (congrArg some (by kernel_rfl))
  f321 := Tryd.func108.trans (congrArg some (by kernel_rfl))
  f322 := Tryd.func109.trans (congrArg some (by kernel_rfl))
  f337 := Tryd.func101.trans (congrArg some (by kernel_rfl))
  f338 := Tryd.func102.trans (congrArg some (by kernel_rfl))
  t0 := Tryd.underlying0
  a0 := Tryd.isAgg0
  z0 := Tryd.sizeOf0
  v0 := Tryd.zeroValue0
  t2 := Tryd.underlying2
  a2 := Tryd.isAgg2
  z2 := Tryd.sizeOf2
  v2 := Tryd.zeroValue2
  t3 := Tryd.underlying3
  a3 := Tryd.isAgg3
  z3 := Tryd.sizeOf3
  v3 := Tryd.zeroValue3
  t4 := Tryd.underlying4
  a4 := Tryd.isAgg4
  z4 := Tryd.sizeOf4
  v4 := Tryd.zeroValue4
  t5 := Tryd.underlying5
  a5 := Tryd.isAgg5
  z5 := Tryd.sizeOf5
  v5 := Tryd.zeroValue5
  t9 := Tryd.underlying9
  a9 := Tryd.isAgg9
  z9 := Tryd.sizeOf9
  v9 := Tryd.zeroValue9
  t20 := Tryd.underlying20
  a20 := Tryd.isAgg20
  z20 := Tryd.sizeOf20
  v20 := Tryd.zeroValue20
  t21 := Tryd.underlying21
  a21 := Tryd.isAgg21
  z21 := Tryd.sizeOf21
  v21 := Tryd.zeroValue21
  t37 := Tryd.underlying120
  a37 := Tryd.isAgg120
  z37 := Tryd.sizeOf120
  v37 := Tryd.zeroValue120
  t46 := Tryd.underlying64
  a46 := Tryd.isAgg64
  z46 := Tryd.sizeOf64
  v46 := Tryd.zeroValue64
  t51 := Tryd.underlying104
  a51 := Tryd.isAgg104
  z51 := Tryd.sizeOf104
  v51 := Tryd.zeroValue104
  t53 := Tryd.underlying107
  a53 := Tryd.isAgg107
  z53 := Tryd.sizeOf107
  v53 := Tryd.zeroValue107
  t75 := Tryd.underlying113
  a75 := Tryd.isAgg113
  z75 := Tryd.sizeOf113
  v75 := Tryd.zeroValue113
  t76 := Tryd.underlying114
  a76 := Tryd.isAgg114
  z76 := Tryd.sizeOf114
  v76 := Tryd.zeroValue114
  t85 := Tryd.underlying130
  a85 := Tryd.isAgg130
  z85 := Tryd.sizeOf130
  v85 := Tryd.zeroValue130
  t127 := Tryd.underlying147
  a127 := Tryd.isAgg147
  z127 := Tryd.sizeOf147
  v127 := Tryd.zeroValue147
  t143 := Tryd.underlying148
  a143 := Tryd.isAgg148
  z143 := Tryd.sizeOf148
  v143 := Tryd.zeroValue148
  t145 := Tryd.underlying150
  a145 := Tryd.isAgg150
  z145 := Tryd.sizeOf150
  v145 := Tryd.zeroValue150
  t167 := Tryd.underlying129
  a167 := Tryd.isAgg129
  z167 := Tryd.sizeOf129
  v167 := Tryd.zeroValue129
  t168 := Tryd.underlying132
  a168 := Tryd.isAgg132
  z168 := Tryd.sizeOf132
  v168 := Tryd.zeroValue132
  t171 := Tryd.underlying117
  a171 := Tryd.isAgg117
  z171 := Tryd.sizeOf117
  v171 := Tryd.zeroValue117
  t173 := Tryd.underlying121
  a173 := Tryd.isAgg121
  z173 := Tryd.sizeOf121
  v173 := Tryd.zeroValue121
  t175 := Tryd.underlying137
  a175 := Tryd.isAgg137
  z175 := Tryd.sizeOf137
  v175 := Tryd.zeroValue137
  t210 := Tryd.underlying141
  a210 := Tryd.isAgg141
  z210 := Tryd.sizeOf141
  v210 := Tryd.zeroValue141
  t212 := Tryd.underlying125
  a212 := Tryd.isAgg125
  z212 := Tryd.sizeOf125
  v212 := Tryd.zeroValue125
  t213 := Tryd.underlying126
  a213 := Tryd.isAgg126
  z213 := Tryd.sizeOf126
  t232 := Tryd.underlying144
  a232 := Tryd.isAgg144
  z232 := Tryd.sizeOf144
  v232 := Tryd.zeroValue144
  t233 := Tryd.underlying145
  a233 := Tryd.isAgg145
  z233 := Tryd.sizeOf145
  v233 := Tryd.zeroValue145
  g15 := by kernel_rfl
  g16 := by kernel_rfl
  g17 := by kernel_rfl
  g18 := by kernel_rfl
  g19 := by kernel_rfl }
open Go.RowKit in
/-- strconv.Atoi: "Atoi is equivalent to ParseInt(s, 10, 0), converted to type int.": AT A DECIMAL NUMERAL OF AT MOST 18 BYTES: its value, and a nil error. The world behind the call: the one new row that the library's '[]byte(s)' lays. (LAID: no walk: one application.) -/
theorem Tryd.strconv_Atoi (s : ByteArray) (n : Int) (hl : s.size ≤ 18) (h : Lib.atoi s.data.toList = some n) (w : World) :
    Calls Tryd.prog 78 #[.string s] w fun e w' => e = .returned (.tuple #[.int .i64 n, .nilIface]) ∧ ∃ t, w' = Lib.bytesWorld w 5 t := Any.strconv_Atoi Tryd.lays172 s n hl h w
def Tryd.laysM171_ren : Go.Shelf.Ren := ⟨fun | 171 => 58 | 243 => 69 | 246 => 77 | 283 => 80 | 284 => 81 | 285 => 82 | 286 => 83 | 129 => 88 | 317 => 87 | 318 => 89 | 319 => 90 | 320 => 91 | 337 => 101 | 338 => 102 | n => n, fun | 3 => 3 | 9 => 9 | 2 => 2 | 4 => 4 | 171 => 117 | 0 => 0 | 53 => 107 | 37 => 120 | 5 => 5 | 173 => 121 | 212 => 125 | 51 => 104 | 20 => 20 | 213 => 126 | 46 => 64 | 232 => 144 | 233 => 145 | n => n, fun | 17 => 1 | 18 => 5 | 19 => 6 | n => n⟩
theorem Tryd.laysM171 : Go.Proofs.LaysM.n171 Tryd.prog Tryd.laysM171_ren := {
  mixed := by kernel_rfl
  f129 := Tryd.func88.trans (congrArg some (by kernel_rfl))
  f171 := Tryd.func58.trans (congrArg some (by kernel_rfl))
  f243 := Tryd.func69.trans (congrArg some (by kernel_rfl))
  f246 := Tryd.func77.trans (congrArg some (by kernel_rfl))
  f283 := Tryd.func80.trans (congrArg some (by kernel_rfl))
  f284 := Tryd.func81.trans (congrArg some (by kernel_rfl))
  f285 := Tryd.func82.trans (congrArg some (by kernel_rfl))
  f286 := Tryd.func83.trans (congrArg some (by kernel_rfl))
  f317 := Tryd.func87.trans (congrArg some (by kernel_rfl))
  f318 := Tryd.func89.trans (congrArg some (by kernel_rfl))
  f319 := Tryd.func90.trans (congrArg some (by kernel_rfl))
  f320 := Tryd.func91.trans (congrArg some (by kernel_rfl))
  f337 := Tryd.func101.trans (congrArg some (by kernel_rfl))
  f338 := Tryd.func102.trans (congrArg some (by kernel_rfl))
  t0 := Tryd.underlying0
  a0 := Tryd.isAgg0
  z0 := Tryd.sizeOf0
  v0 := Tryd.zeroValue0
  t2 := Tryd.underlying2
  a2 := Tryd.isAgg2
  z2 := Tryd.sizeOf2
  v2 := Tryd.zeroValue2
  t3 := Tryd.underlying3
  a3 := Tryd.isAgg3
  z3 := Tryd.sizeOf3
  v3 := Tryd.zeroValue3
  t4 := Tryd.underlying4
  a4 := Tryd.isAgg4
  z4 := Tryd.sizeOf4
  v4 := Tryd.zeroValue4
  t5 := Tryd.underlying5
  a5 := Tryd.isAgg5
  z5 := Tryd.sizeOf5
  v5 := Tryd.zeroValue5
  t9 := Tryd.underlying9
  a9 := Tryd.isAgg9
  z9 := Tryd.sizeOf9
  v9 := Tryd.zeroValue9
  t20 := Tryd.underlying20
  a20 := Tryd.isAgg20
  z20 := Tryd.sizeOf20
  v20 := Tryd.zeroValue20
  t37 := Tryd.underlying120
  a37 := Tryd.isAgg120
  z37 := Tryd.sizeOf120
  v37 := Tryd.zeroValue120
  t46 := Tryd.underlying64
  a46 := Tryd.isAgg64
  z46 := Tryd.sizeOf64
  v46 := Tryd.zeroValue64
  t51 := Tryd.underlying104
  a51 := Tryd.isAgg104
  z51 := Tryd.sizeOf104
  v51 := Tryd.zeroValue104
  t53 := Tryd.underlying107
  a53 := Tryd.isAgg107
  z53 := Tryd.sizeOf107
  v53 := Tryd.zeroValue107
  t171 := Tryd.underlying117
  a171 := Tryd.isAgg117
  z171 := Tryd.sizeOf117
  v171 := Tryd.zeroValue117
  t173 := Tryd.underlying121
  a173 := Tryd.isAgg121
  z173 := Tryd.sizeOf121
  v173 := Tryd.zeroValue121
  t212 := Tryd.underlying125
  a212 := Tryd.isAgg125
  z212 := Tryd.sizeOf125
  v212 := Tryd.zeroValue125
  t213 := Tryd.underlying126
  a213 := Tryd.isAgg126
  z213 := Tryd.sizeOf126
  t232 := Tryd.underlying144
  a232 := Tryd.isAgg144
  z232 := Tryd.sizeOf144
  v232 := Tryd.zeroValue144
  t233 := Tryd.underlying145
  a233 := Tryd.isAgg145
  z233 := Tryd.sizeOf145
  v233 := Tryd.zeroValue145
  g17 := by kernel_rfl
  g18 := by kernel_rfl
  g19 := by kernel_rfl
  i0 := by kernel_rfl
  i2 := by kernel_rfl
  i3 := by kernel_rfl
  i4 := by kernel_rfl
  i5 := by kernel_rfl
  i9 := by kernel_rfl
  i20 := by kernel_rfl
  i37 := by kernel_rfl
  i46 := by kernel_rfl
  i51 := by kernel_rfl
  i53 := by kernel_rfl
  i171 := by kernel_rfl
  i173 := by kernel_rfl
  i212 := by kernel_rfl
  i232 := by kernel_rfl
  i233 := by kernel_rfl
  m17 := by kernel_rfl
  m18 := by kernel_rfl
  m19 := by kernel_rfl }
open Go.RowKit Go.Sort Go.Lib in
/-- strconv.Itoa: "Itoa is equivalent to FormatInt(int64(i), 10).": i's DECIMAL NUMERAL ('Lib.itoa': a '-' where i is negative, then the digits), FOR EVERY int. The world behind the call: the world before it, new blocks behind the heap (the library's 'var a [24]byte'), draws. (LAID: no walk: one application.) -/
theorem Tryd.strconv_Itoa (n : Int) (h0 : -9223372036854775808 ≤ n) (h1 : n ≤ 9223372036854775807) (w : World) (htab : Lib.TabIs Tryd.prog w "internal/strconv.uint64pow10" .u64 Lib.pow10Tab) :
    Calls Tryd.prog 58 #[.int .i64 n] w fun e w' => e = .returned (.string ⟨(Lib.itoa n).toArray⟩) ∧ ∃ k os, w' = grow (w.drewN k) os := Any.strconv_Itoa Tryd.laysM171 n h0 h1 w htab
def Tryd.lays144_ren : Go.Shelf.Ren := ⟨fun | 144 => 72 | 143 => 79 | 219 => 86 | 217 => 97 | 225 => 98 | 224 => 99 | 267 => 100 | 266 => 106 | 314 => 107 | n => n, fun | 9 => 9 | 4 => 4 | 3 => 3 | 5 => 5 | 46 => 64 | 146 => 105 | 51 => 104 | n => n, fun | 1 => 2 | n => n⟩
theorem Tryd.lays144 : Go.Proofs.Lays.n144 Tryd.prog Tryd.lays144_ren := {
  mixed := by kernel_rfl
  f143 := Tryd.func79.trans (congrArg some (by kernel_rfl))
  f144 := Tryd.func72.trans (congrArg some (by kernel_rfl))
  f217 := Tryd.func97.trans (congrArg some (by kernel_rfl))
  f219 := Tryd.func86.trans (congrArg some (by kernel_rfl))
  f224 := Tryd.func99.trans (congrArg some (by kernel_rfl))
  f225 := Tryd.func98.trans (congrArg some (by kernel_rfl))
  f266 := Tryd.func106.trans (congrArg some (by kernel_rfl))
  f267 := Tryd.func100.trans (congrArg some (by kernel_rfl))
  f314 := Tryd.func107.trans (congrArg some (by kernel_rfl))
  t3 := Tryd.underlying3
  a3 := Tryd.isAgg3
  z3 := Tryd.sizeOf3
  v3 := Tryd.zeroValue3
  t4 := Tryd.underlying4
  a4 := Tryd.isAgg4
  z4 := Tryd.sizeOf4
  v4 := Tryd.zeroValue4
  t5 := Tryd.underlying5
  a5 := Tryd.isAgg5
  z5 := Tryd.sizeOf5
  v5 := Tryd.zeroValue5
  t9 := Tryd.underlying9
  a9 := Tryd.isAgg9
  z9 := Tryd.sizeOf9
  v9 := Tryd.zeroValue9
  t46 := Tryd.underlying64
  a46 := Tryd.isAgg64
  z46 := Tryd.sizeOf64
  v46 := Tryd.zeroValue64
  t51 := Tryd.underlying104
  a51 := Tryd.isAgg104
  z51 := Tryd.sizeOf104
  v51 := Tryd.zeroValue104
  t146 := Tryd.underlying105
  a146 := Tryd.isAgg105
  z146 := Tryd.sizeOf105
  v146 := Tryd.zeroValue105
  g1 := by kernel_rfl }
open Go.RowKit Go.Lib in
/-- strings.Contains: "Contains reports whether substr is within s.": AT A substr OF ONE BYTE c: IT RETURNS 'decide (0 ≤ Lib.indexByte s c)'; the world is as it was. (LAID: no walk: one application.) -/
theorem Tryd.strings_Contains_one (s : ByteArray) (c : UInt8) (w : World) :
    Calls Tryd.prog 72 #[.string s, .string ⟨#[c]⟩] w fun e w' => e = .returned (.bool (decide (0 ≤ Lib.indexByte s.data.toList c))) ∧ w' = w := Any.strings_Contains_one Tryd.lays144 s c w
def Tryd.lays212_ren : Go.Shelf.Ren := ⟨fun | 212 => 66 | 263 => 74 | 264 => 75 | n => n, fun | 46 => 64 | 51 => 104 | 146 => 105 | 53 => 107 | 148 => 108 | n => n, fun | n => n⟩
theorem Tryd.lays212 : Go.Proofs.Lays.n212 Tryd.prog Tryd.lays212_ren := {
  mixed := by kernel_rfl
  f212 := Tryd.func66.trans (congrArg some (by kernel_rfl))
  f263 := Tryd.func74.trans (congrArg some (by kernel_rfl))
  f264 := Tryd.func75.trans (congrArg some (by kernel_rfl))
  t46 := Tryd.underlying64
  a46 := Tryd.isAgg64
  z46 := Tryd.sizeOf64
  v46 := Tryd.zeroValue64
  t51 := Tryd.underlying104
  a51 := Tryd.isAgg104
  z51 := Tryd.sizeOf104
  v51 := Tryd.zeroValue104
  t53 := Tryd.underlying107
  a53 := Tryd.isAgg107
  z53 := Tryd.sizeOf107
  v53 := Tryd.zeroValue107
  t146 := Tryd.underlying105
  a146 := Tryd.isAgg105
  z146 := Tryd.sizeOf105
  v146 := Tryd.zeroValue105
  t148 := Tryd.underlying108
  a148 := Tryd.isAgg108
  z148 := Tryd.sizeOf108
  v148 := Tryd.zeroValue108 }
open Go.RowKit Go.Lib in
/-- math/bits.Mul: "Mul returns the full-width product of x and y": on a machine of 64 bits: Mul64's. (LAID: no walk: one application.) -/
theorem Tryd.bits_Mul (x y : Nat) (hx : x < 18446744073709551616) (hy : y < 18446744073709551616) (w : World) :
    Calls Tryd.prog 66 #[.int .u64 x, .int .u64 y] w fun e w' => e = .returned (.tuple #[.int .u64 ((x * y / 18446744073709551616 : Nat) : Int), .int .u64 ((x * y % 18446744073709551616 : Nat) : Int)]) ∧ w' = w := Any.bits_Mul Tryd.lays212 x y hx hy w
def Tryd.lays109_ren : Go.Shelf.Ren := ⟨fun | 109 => 71 | n => n, fun | 31 => 101 | 9 => 9 | 3 => 3 | 0 => 0 | 4 => 4 | n => n, fun | n => n⟩
theorem Tryd.lays109 : Go.Proofs.Lays.n109 Tryd.prog Tryd.lays109_ren := {
  mixed := by kernel_rfl
  f109 := Tryd.func71.trans (congrArg some (by kernel_rfl))
  t0 := Tryd.underlying0
  a0 := Tryd.isAgg0
  z0 := Tryd.sizeOf0
  v0 := Tryd.zeroValue0
  t3 := Tryd.underlying3
  a3 := Tryd.isAgg3
  z3 := Tryd.sizeOf3
  v3 := Tryd.zeroValue3
  t4 := Tryd.underlying4
  a4 := Tryd.isAgg4
  z4 := Tryd.sizeOf4
  v4 := Tryd.zeroValue4
  t9 := Tryd.underlying9
  a9 := Tryd.isAgg9
  z9 := Tryd.sizeOf9
  v9 := Tryd.zeroValue9
  t31 := Tryd.underlying101
  a31 := Tryd.isAgg101
  z31 := Tryd.sizeOf101
  v31 := Tryd.zeroValue101 }
open Go.Lib in
/-- slices.Index at []string: "Index returns the index of the first occurrence of v in s, or -1 if not present.": IT RETURNS 'Lib.idxOfS (the elements) v'; the world is as it was. 'zs': what the cells behind the slice's address hold (its spare capacity too, if you have it); 'zs.take n': its elements. (LAID: no walk: one application.) -/
theorem Tryd.slices_Index_string (b off n c : Nat) (zs : List ByteArray) (x : ByteArray) (w : World) (hz : n ≤ zs.length) (hbig : n ≤ 9223372036854775807) (hc : ∀ j, j < zs.length → w.cell? ⟨b, off + j, none⟩ = some (.string (zs.getD j ByteArray.empty))) :
    Calls Tryd.prog 71 #[.slice (some ⟨b, off, none⟩) n c, .string x] w fun e w' => e = .returned (.int .i64 (Lib.idxOfS (zs.take n) x)) ∧ w' = w := Any.slices_Index_string Tryd.lays109 b off n c zs x w hz hbig hc
def Tryd.laysSlE041_f67_ren : Go.Shelf.Ren := ⟨fun | 41 => 67 | n => n, fun | 22 => 44 | 23 => 4 | 4 => 4 | n => n, fun | n => n⟩
theorem Tryd.laysSlE041_f67 : Go.Proofs.SlLaysE0.n41 Tryd.prog Tryd.laysSlE041_f67_ren := {
  mixed := by kernel_rfl
  f41 := ⟨Tryd.f67.name, by decide, Tryd.func67.trans (congrArg some (by kernel_rfl))⟩
  t4 := Tryd.underlying4
  a4 := Tryd.isAgg4
  z4 := Tryd.sizeOf4
  v4 := Tryd.zeroValue4
  t22 := Tryd.underlying44
  a22 := Tryd.isAgg44
  z22 := Tryd.sizeOf44
  v22 := Tryd.zeroValue44 }
open Go.RowKit Go.Lib in
/-- slices.Clone: "Clone returns a copy of the slice. The elements are copied using assignment, so this is a shallow clone. The result may have additional unused capacity. The result preserves the nilness of s.": OF A SLICE THAT IS NOT nil IT RETURNS A SLICE THAT IS NOT nil, OF THE SAME CELLS, IN MEMORY OF THE CALL's OWN ('ownsRow': the how-to's 6f); below the heap's size at the call all is as it was. (LAID AT THE INSTANCE 'slices.Clone[[]bool,bool]': no walk: one application.) -/
theorem Tryd.slices_Clone (i0 : TypeInfo) (z : Value) (size bytes : Nat) (hi : Tryd.prog.info? 4 = some i0) (hz0 : i0.zero = some z) (hz1 : i0.size = size) (hz2 : i0.bytes = bytes) (hzs : z.cells.size = size) (hsz : 0 < size) (z23 : ∀ w, (Go.sizeOf 4).run Tryd.prog w = .ok size w) (b off n c : Nat) (news : List Value) (w : World) (hl : news.length = n * size) (hn : n ≤ maxLen) (hbig : n * bytes ≤ 140737488355328) (hc : ∀ j u, news[j]? = some u → w.cell? ⟨b, off + j, none⟩ = some u) (h1 : ∀ u ∈ news, u.oneCell' = true) :
    Calls Tryd.prog 67 #[.slice (some ⟨b, off, none⟩) n c] w fun e w' => ∃ v', e = .returned v' ∧ w'.ownsRow w.heap.size 4 size v' n news ∧ v' ≠ .slice none 0 0 ∧ Below w.heap.size w w' := AnyE.slices_Clone Tryd.laysSlE041_f67 i0 z size bytes hi hz0 hz1 hz2 hzs hsz z23 b off n c news w hl hn hbig hc h1
open Go.RowKit Go.Lib in
/-- The same at nil: nil comes back; the world is as it was; nothing is asked of the element's type. (LAID AT THE INSTANCE 'slices.Clone[[]bool,bool]': no walk: one application.) -/
theorem Tryd.slices_Clone_nil (n c : Nat) (w : World) :
    Calls Tryd.prog 67 #[.slice none n c] w fun e w' => e = .returned (.slice none 0 0) ∧ w' = w := AnyE.slices_Clone_nil Tryd.laysSlE041_f67 n c w
end Go.Proofs
/- revset.spread: what it computes; the way down walked. -/
namespace Go.Proofs.YtijaoedlhmdpnaaDoor
open Go.RowKit Go.Proofs.YtijaoedlhmdpnaaDoor.PTopQueriesKept Go.Proofs.YtijaoedlhmdpnaaDoorW.PrintWords

/-- Behind the parents ps of commit i. -/
def spIn (up : Bool) (i : Nat) (ps : List Int) (out : List Bool) : List Bool :=
  ps.foldl (fun out p => if up = true then out.set p.toNat (out.getD p.toNat false || out.getD i false) else out.set i (out.getD i false || out.getD p.toNat false)) out
/-- Behind the commits is, one after the other. -/
def spAll (up : Bool) (cs : List S51) (is : List Nat) (out : List Bool) : List Bool := is.foldl (fun out i => spIn up i (pars cs i) out) out
def spreadF (up : Bool) (cs : List S51) (xs : List Bool) : List Bool := spAll up cs (if up = true then (List.range cs.length).reverse else List.range cs.length) xs

theorem spIn_length (up : Bool) (i : Nat) : ∀ (ps : List Int) (out : List Bool), (spIn up i ps out).length = out.length
  | [], _ => rfl
  | p :: ps, out => by
    have := spIn_length up i ps
    unfold spIn at *
    rw [List.foldl_cons, this]
    split <;> simp
theorem spAll_length (up : Bool) (cs : List S51) : ∀ (is : List Nat) (out : List Bool), (spAll up cs is out).length = out.length
  | [], _ => rfl
  | i :: is, out => by
    have := spAll_length up cs is
    unfold spAll at *
    rw [List.foldl_cons, this, spIn_length]
theorem spIn_take (up : Bool) (i : Nat) (ps : List Int) (out : List Bool) (j : Nat) (hj : j < ps.length) (p : Nat) (hp : ps[j] = (p : Int)) : spIn up i (ps.take (j + 1)) out =
    (let o := spIn up i (ps.take j) out; if up = true then o.set p (o.getD p false || o.getD i false) else o.set i (o.getD i false || o.getD p false)) := by
  rw [List.take_succ_eq_append_getElem hj, hp]
  simp [spIn]
theorem spAll_snoc (up : Bool) (cs : List S51) (is : List Nat) (i : Nat) (out : List Bool) : spAll up cs (is ++ [i]) out = spIn up i (pars cs i) (spAll up cs is out) := by simp [spAll]

/-- A selection that can be copied: the slice is none, or its elements lie plainly. -/
def Plain (A : Option Addr) : Prop := A = none ∨ ∃ g o, A = some ⟨g, o, none⟩

theorem clone_any (xs : List Bool) (A : Option Addr) (c : Nat) (w : World) (hC : Kd.C Kd.bool w A xs.length xs) (hp : Plain A) (hn : xs.length ≤ 60) :
    Calls Tryd.prog 67 #[.slice A xs.length c] w fun e w' => ∃ v, e = .returned v ∧ Kd.R Kd.bool 4 w' w.heap.size (fun _ => True) v xs ∧ Bel w w' := by
  rcases hp with rfl | ⟨g, o, rfl⟩
  · refine (Tryd.slices_Clone_nil xs.length c w).mono ?_
    rintro e w' ⟨rfl, rfl⟩
    have hx : xs = [] := by
      cases xs with
      | nil => rfl
      | cons x xs => obtain ⟨ad, h, _⟩ := Kd.at_bool hC 0 (by omega) (by simp); cases h
    subst hx
    exact ⟨_, rfl, Kd.R_nil _ _ _ _ _, Bel.refl _⟩
  · obtain ⟨i0, hi, hz0, hz1, hz2⟩ := info_parts info4
    refine (Tryd.slices_Clone i0 (.bool false) 1 1 hi hz0 hz1 hz2 rfl (by decide) (fun w => by kernel_rfl) g o xs.length c (encs Value.bool xs) w (by simp [encs]) (by unfold maxLen; omega) (by omega) ?_ ?_).mono ?_
    · intro j u hj
      obtain ⟨hj', hx⟩ := List.getElem?_eq_some_iff.1 hj
      simp only [encs, List.length_map] at hj'
      obtain ⟨ad, he, hc⟩ := Kd.at_bool hC (j : Int) (by omega) (by omega)
      have he' := Option.some.inj he
      subst he'
      rw [rdOf, Int.toNat_natCast, Addr.add_lit] at hc
      have hw : w.cell? ⟨g, o + j, none⟩ = some (.bool (xs.getD j false)) := hc
      rw [hw, ← hx]
      simp only [encs, List.getElem_map, List.getD_eq_getElem?_getD, List.getElem?_eq_getElem hj', Option.getD_some]
    · intro u hu
      simp only [encs, List.mem_map] at hu
      obtain ⟨x, _, rfl⟩ := hu
      rfl
    · rintro e w' ⟨v, rfl, ho, _, hb⟩
      exact ⟨v, rfl, Kd.R_of_own ho (fun _ _ => trivial), hb⟩

/-- spread under way: the variable out lies in block g7, holds the slice v and reads out; ok: where its cells may lie. -/
structure SpH (w wr : World) (B g7 : Nat) (v : Value) (out : List Bool) : Prop where
  ge : w.heap.size ≤ g7
  blk : wr.heap[g7]? = some (.cells #[v] 44 (0, 0))
  row : Kd.R Kd.bool 4 wr w.heap.size (fun k => k < B) v out
  bel : Below w.heap.size w wr
theorem SpH.alloc {w wr : World} {B g7 : Nat} {v : Value} {out : List Bool} (h : SpH w wr B g7 v out) (o : Obj) : SpH w (wr.alloc o) B g7 v out :=
  ⟨h.ge, heap_alloc_old h.blk o, Kd.R_alloc h.row o, h.bel.alloc (by have := h.bel.size; omega) o⟩
theorem SpH.drew {w wr : World} {B g7 : Nat} {v : Value} {out : List Bool} (h : SpH w wr B g7 v out) : SpH w wr.drew B g7 v out :=
  ⟨h.ge, h.blk, Kd.R_drew h.row, h.bel.drew⟩
theorem SpH.ne {w wr : World} {B g7 g n cap : Nat} {out : List Bool} (h : SpH w wr B g7 (.slice (some ⟨g, 0, none⟩) n cap) out) : g ≠ g7 := by
  rintro rfl
  exact Kd.R_ne h.row h.blk (by decide) rfl
theorem SpH.ge' {w wr : World} {B g7 g n cap : Nat} {out : List Bool} (h : SpH w wr B g7 (.slice (some ⟨g, 0, none⟩) n cap) out) : w.heap.size ≤ g := Kd.R_base h.row g rfl
theorem SpH.put {w wr : World} {B g7 g n cap : Nat} {out : List Bool} (h : SpH w wr B g7 (.slice (some ⟨g, 0, none⟩) n cap) out) (i : Nat) (b : Bool) : SpH w (wr.setCell ⟨g, i, none⟩ (.bool b)) B g7 (.slice (some ⟨g, 0, none⟩) n cap) (out.set i b) := by
  refine ⟨h.ge, ?_, ?_, ?_⟩
  · exact (heap_setCell_far wr ⟨g, i, none⟩ _ (fun e => h.ne e.symm)).trans h.blk
  · have := Kd.R_putn h.row (i : Int) b
    exact this
  · exact h.bel.setCell (p := ⟨g, i, none⟩) h.ge' _
theorem SpH.cell {w wr : World} {B g7 g n cap : Nat} {out : List Bool} (h : SpH w wr B g7 (.slice (some ⟨g, 0, none⟩) n cap) out) (i : Nat) (hi : i < n) : wr.cell? ⟨g, i, none⟩ = some (.bool (out[i]?.getD false)) ∧ wr.frozen? ⟨g, i, none⟩ = false := by
  have := Kd.R_celln false h.row (i : Int) (by omega) (by omega)
  simpa [rdOf] using this
theorem SpH.cell7 {w wr : World} {B g7 : Nat} {v : Value} {out : List Bool} (h : SpH w wr B g7 v out) : wr.cell? ⟨g7, 0, none⟩ = some v ∧ wr.frozen? ⟨g7, 0, none⟩ = false :=
  ⟨(blk_cell h.blk 0).trans rfl, blk_frozen h.blk 0⟩

set_option maxRecDepth 100000 in
set_option maxHeartbeats 4000000 in
theorem spread_down (cs : List S51) (A : Option Addr) (c0 : Nat) (xs : List Bool) (A1 : Option Addr) (c1 : Nat) (w : World) (hv : VH cs) (hC0 : Kd.C k51 w A cs.length cs) (hC : Kd.C Kd.bool w A1 xs.length xs) (hp : Plain A1) (hx : xs.length = cs.length) (hc0 : cs.length ≤ c0) :
    Calls Tryd.prog 56 #[.slice A cs.length c0, .slice A1 xs.length c1, .bool false] w fun e w' => ∃ v, e = .returned v ∧ Kd.R Kd.bool 4 w' w.heap.size (fun _ => True) v (spreadF false cs xs) ∧ Bel w w' := by
  have hn := hv.1
  obtain ⟨P, c, hA⟩ := cAt_all hC0
  have hl : xs.length ≤ 60 := by omega
  have HL := Lib.hid hl
  have HP := Lib.hid hp
  clear hl hp
  have HX := Lib.hid hx
  have HC := Lib.hid hC
  have HC0 := Lib.hid hC0
  have HA := Lib.hid hA
  have HV := Lib.hid hv
  clear hC hC0 hA hv hx
  go_enter Tryd.func56, Tryd.ntmps56
  go_wp2_with (first | (go_at_call 67; go_must (refine (clone_any xs A1 c1 _ HC.out HP.out HL.out).mono ?_); rintro e w1 ⟨v, rfl, hr1, hb1⟩; have HR1 := Lib.hid hr1; have HB1 := Lib.hid hb1; clear hr1 hb1; obtain ⟨A', cap, rfl⟩ := Kd.R_slice HR1.out))
  have HS : Hid (SpH w (w1.alloc (.cells #[.slice A' xs.length cap] 44)) (w1.heap.size) w1.heap.size (.slice A' xs.length cap) xs) := Lib.hid ⟨Bel.size HB1.out, heap_alloc_at _ rfl, Kd.R_alloc (Kd.R_mono (Kd.R_bound HR1.out) fun k hk => hk.2.2.1) _, (HB1.out.thenAlloc _)⟩
  generalize w1.alloc (.cells #[.slice A' xs.length cap] 44) = W at *
  generalize w1.heap.size = g7 at *
  go_loopw [47] (fun i wr => ∃ k : Nat, k ≤ cs.length ∧ i = .int .i64 k ∧ Hid (SpH w wr g7 g7 (.slice A' xs.length cap) (spAll false cs (List.range k) xs))) (fun i _ => cs.length - (intOf i).toNat)
  case atStart => exact ⟨0, Nat.zero_le _, rfl, HS⟩
  case round =>
    obtain ⟨k, hk, rfl, HR⟩ := hrel
    by_cases hlt : k < cs.length
    · obtain ⟨ad, rfl, hx0, hx1, hx2, hx3, hx4, hpl, hpc⟩ := HA.out k hlt
      replace hx0 := (HR.out.bel.cell (World.block_lt_of_cell? w _ hx0)).trans hx0
      replace hx1 := (HR.out.bel.cell (World.block_lt_of_cell? w _ hx1)).trans hx1
      replace hx2 := (HR.out.bel.cell (World.block_lt_of_cell? w _ hx2)).trans hx2
      replace hx3 := (HR.out.bel.cell (World.block_lt_of_cell? w _ hx3)).trans hx3
      replace hx4 := (HR.out.bel.cell (World.block_lt_of_cell? w _ hx4)).trans hx4
      have hvk := HV.out.2 k hlt
      unfold pars at hvk
      obtain ⟨hv3, hvp⟩ := hvk
      have HVP := Lib.hid hvp
      clear hvp
      have hnext : spAll false cs (List.range (k + 1)) xs = spIn false k (cs.getD k z51).f0 (spAll false cs (List.range k) xs) := by
        rw [List.range_succ, spAll_snoc]; rfl
      have HN := Lib.hid hnext
      clear hnext
      generalize cs.getD k z51 = cm at *
      generalize P k = pk at *
      generalize c k = ck at *
      have HPC := Lib.hid hpc
      clear hpc
      have HS1 := Lib.hid (HR.out.alloc (Obj.cells #[.slice pk cm.f0.length ck, .int .i64 cm.f1, .int .i64 cm.f2, .int .i64 cm.f3, .string cm.f4] 51 (0, 0)))
      go_wp2_with fail
      clear hx0 hx1 hx2 hx3 hx4
      generalize wr.alloc (Obj.cells #[.slice pk cm.f0.length ck, .int .i64 cm.f1, .int .i64 cm.f2, .int .i64 cm.f3, .string cm.f4] 51 (0, 0)) = W2 at *
      obtain ⟨o0, ho0⟩ : ∃ o0, spAll false cs (List.range k) xs = o0 := ⟨_, rfl⟩
      rw [ho0] at HS1 HN
      have HO0 := Lib.hid ho0
      clear ho0
      go_loopw [55] (fun i wi => ∃ j : Nat, j ≤ cm.f0.length ∧ i = .int .i64 j ∧ Hid (SpH w wi g7 g7 (.slice A' xs.length cap) (spIn false k (cm.f0.take j) o0))) (fun i _ => cm.f0.length - (intOf i).toNat)
      case atStart => exact ⟨0, Nat.zero_le _, rfl, HS1⟩
      case round =>
        obtain ⟨j, hj, rfl, HRI⟩ := hrel
        by_cases hjl : j < cm.f0.length
        · obtain ⟨hp0, hpk⟩ := HVP.out cm.f0[j] (List.getElem_mem hjl)
          obtain ⟨p, hpe⟩ := Int.eq_ofNat_of_zero_le hp0
          obtain ⟨ad2, hP, hxj⟩ := Kd.at_int (Kd.C_below HPC.out HRI.out.bel) (j : Int) (by omega) (by omega)
          subst hP
          rw [rd_nat, List.getD_eq_getElem?_getD, List.getElem?_eq_getElem hjl, Option.getD_some, hpe, Int.toNat_natCast] at hxj
          have HNX := Lib.hid (spIn_take false k cm.f0 o0 j hjl p hpe)
          rw [hpe] at hpk
          clear hpe hp0
          generalize spIn false k (cm.f0.take j) o0 = o1 at *
          have hl1 : o1.length = xs.length := (Kd.R_reads' HRI.out.row).1.symm
          have hlk : k < xs.length := by rw [HX.out]; omega
          have hlp : p < xs.length := by omega
          obtain ⟨g, cap', hform, _⟩ := Kd.R_form HRI.out.row (by omega)
          injection hform with hform1 hform2 hform3
          subst hform1
          clear hform2 hform3
          obtain ⟨h7, h7f⟩ := HRI.out.cell7
          obtain ⟨hck, hcf⟩ := HRI.out.cell k hlk
          obtain ⟨hcp, hpf⟩ := HRI.out.cell p hlp
          generalize hq : o1[k]?.getD false = bk at *
          generalize hq2 : o1[p]?.getD false = bp at *
          have HQ := Lib.hid hq
          have HQ2 := Lib.hid hq2
          clear hq hq2
          have b1 : (0 : Int) ≤ (k : Int) := by omega
          have b2 : (k : Int) < (xs.length : Int) := by omega
          have b3 : (0 : Int) ≤ (p : Int) := by omega
          have b4 : (p : Int) < (xs.length : Int) := by omega
          cases bk with
          | true =>
            go_wp2_with fail
            go_region
            go_wp2_with fail
            go_roundw
            case rel => exact ⟨j + 1, by omega, rfl, Lib.hid (by rw [HNX.out]; simp only [Bool.false_eq_true, if_false, List.getD_eq_getElem?_getD, HQ.out, HQ2.out, Bool.true_or, Bool.false_or]; exact (HRI.out.put k _).drew)⟩
            case measure => simp [intOf]; omega
          | false =>
            go_wp2_with fail
            go_region
            go_wp2_with fail
            go_roundw
            case rel => exact ⟨j + 1, by omega, rfl, Lib.hid (by rw [HNX.out]; simp only [Bool.false_eq_true, if_false, List.getD_eq_getElem?_getD, HQ.out, HQ2.out, Bool.true_or, Bool.false_or]; exact (HRI.out.put k _).drew)⟩
            case measure => simp [intOf]; omega
        · obtain rfl : j = cm.f0.length := by omega
          go_wp2_with fail
          go_roundw
          case rel => exact ⟨k + 1, by omega, rfl, Lib.hid (by rw [HN.out]; have := HRI.out; rwa [List.take_length] at this)⟩
          case measure => simp [intOf]; omega
    · obtain rfl : k = cs.length := by omega
      obtain ⟨h7, h7f⟩ := HR.out.cell7
      go_wp2_with fail
      go_ret
      exact ⟨_, rfl, Kd.R_mono HR.out.row fun _ _ => trivial, HR.out.bel⟩

end Go.Proofs.YtijaoedlhmdpnaaDoor
/- A region that draws its order, inside a round of a loop over a function, at the wide fence: out of the plain laws. -/
namespace Go.Proofs.YtijaoedlhmdpnaaDoor
open Go Go.RowKit

variable {P : Program} {ops : Array Oper} {Q : Exit → Act → World → Prop} {l n : Nat}

theorem rowsIn_round {row : String} {args : Array Value} {w : World} {R : Value → World → Prop} (h : Rows P row args w R) : RowsIn (Fence.wide.inRound l) n P row args w R :=
  fun c cs _ => let ⟨v, w', r, s⟩ := h c cs; ⟨v, w', r, stepsIn_wide.2 s⟩

/-- No operation is a defer statement. -/
def noDefer (ops : Array Oper) : Bool := ops.all fun o => match o.op with | .defer _ => false | _ => true
theorem noDefer_spec (h : noDefer ops = true) {i : Nat} {o : Oper} (hi : ops[i]? = some o) : ∀ c, o.op ≠ .defer c := by
  intro c hc
  obtain ⟨hlt, rfl⟩ := Array.getElem?_eq_some_iff.1 hi
  have := Array.all_eq_true.1 h i hlt
  rw [hc] at this
  cases this

theorem oper_round {o : Oper} {a : Act} {w : World} {K : Act → World → Prop} (hd : ∀ c, o.op ≠ .defer c) (h : o.wp P a w K Q) : o.wpIn (Fence.wide.inRound l) n P a w K Q := by
  refine ⟨fun _ _ => trivial, ?_⟩
  rw [Oper.semAt_eq _ _ _ hd]
  unfold Oper.wp at h
  generalize (execOp a.eval o).run P w = r at h
  cases r with
  | ok x w' =>
    cases x with
    | enter f args => exact ⟨fun hs => by (cases hs), CallsIn.inRound l (callsIn_wide.2 h)⟩
    | row row args => exact ⟨fun hs => by (cases hs), rowsIn_round h⟩
    | _ => first | exact h | exact h.elim
  | halt x w' =>
    cases x <;> exact h

theorem ops_round (hd : noDefer ops = true) (hQ : ¬ LetsOut Q) : ∀ (is : List Nat) (a : Act) (w : World), wpOps P ops Q is a w → wpOpsIn (Fence.wide.inRound l) n P ops Q is a w
  | [], _, _, h => h
  | i :: is, a, w, h => by
    simp only [wpOps] at h
    simp only [wpOpsIn]
    cases ho : ops[i]? with
    | none => simp only [ho] at h ⊢; exact ops_round hd hQ is a w h
    | some o =>
      simp only [ho] at h ⊢
      by_cases hw : Region.wanted o (yielded ops a.tmps) = true
      · simp only [hw, if_true] at h ⊢
        rcases h with h | h
        · exact Oper.wpIn_mono (fun a w h => ops_round hd hQ is a w h) (oper_round (noDefer_spec hd ho) h)
        · exact absurd h.2 hQ
      · simp only [hw, if_false, Bool.false_eq_true] at h ⊢
        exact ⟨fun _ _ => trivial, ops_round hd hQ is _ w h⟩

theorem region_round {id : Nat} {a : Act} {w : World} (hm : P.follows .mixedOrders = true) (hd : noDefer ops = true) (hQ : ¬ LetsOut Q)
    (h : wpAny P .any ops Q ops.size (Array.replicate ops.size false) a { w with drawn := w.drawn + 1 }) : (Code.region id ops true).wpIn (Fence.wide.inRound l) n P Q a w :=
  wpIn_region_draw fun t => by
    simp only [Region.schedule, hm, Bool.true_or, if_true]
    exact ops_round hd hQ _ _ _ (wpAny_sound ops.size t _ a _ h)

/-- All operations but the last ones read: one walk, in the order of the text. -/
theorem region_round_tail {id : Nat} {a : Act} {w : World} {ls : List Oper} (m : Nat) (hm : P.follows .mixedOrders = true) (hd : noDefer ls.toArray = true) (hB : Region.lexTailB .any ls.toArray m = true) (hQ : ¬ LetsOut Q)
    (h : wpStill P ls.toArray { w with drawn := w.drawn + 1 } (fun a' => wpList P ls.toArray Q (ls.drop m) a' { w with drawn := w.drawn + 1 }) (ls.take m) a) : (Code.region id ls.toArray true).wpIn (Fence.wide.inRound l) n P Q a w := by
  refine region_round hm hd hQ ?_
  simp only [Region.lexTailB, Bool.and_eq_true, decide_eq_true_eq] at hB
  obtain ⟨⟨⟨⟨hsel, hn⟩, hs⟩, hc⟩, hlex⟩ := hB
  have hsz : ls.toArray.size = ls.length := by simp
  rw [hsz] at hn
  have hT : (ls.take m).length = m := by rw [List.length_take]; omega
  have hD : (ls.drop m).length = ls.toArray.size - m := by rw [List.length_drop, hsz]
  have hinv : HeadInv .any ls.toArray m (Array.replicate ls.toArray.size false) :=
    { size := Array.size_replicate, closed := fun j _ _ hl => absurd hl (by rw [getD_replicate_false]; simp), tail := fun t _ ht => getD_in (by rw [Array.size_replicate]; exact ht) (getD_replicate_false _ _) }
  have H1 := wpAnyL_lex (md := .any) (g := ls.toArray.size - m) hsel hs hc (by rw [hsz]; exact hn) (ls.take m) 0 _ a (fun j hj => by
    rw [hT] at hj
    simp [hj]) (by rw [hT]; omega) hinv (by rw [hT]; exact hlex) h
  have H2 := wpAny_of_head (Q' := Q) (g := ls.toArray.size - m) (fun listed a' hL => by
    have := wpAny_of_seq (md := .any) (Q' := Q) (ls.drop m) m listed a' { w with drawn := w.drawn + 1 } (fun j => by simp [List.getElem?_drop]) (by rw [hD]; exact hL.1) hL.2
    rwa [hD] at this) _ _ _ H1
  have he : m + (ls.toArray.size - m) = ls.toArray.size := by omega
  rwa [hT, he] at H2

end Go.Proofs.YtijaoedlhmdpnaaDoor
