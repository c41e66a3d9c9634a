/- The common part of the laws on queries, text 2 of 7: contracts of the functions that they reach, and the plain mathematics. -/
import Derived.Test.YtijaoedlhmdpnaaDoorZ1
import Derived.Laws.CopyOwn
import Derived.Deep.OwnRows
set_option linter.unusedVariables false
set_option linter.unusedSimpArgs false
/- revset.spread: the way up walked: a range over slices.Backward. -/
namespace Go.Proofs.YtijaoedlhmdpnaaDoor
open Go.RowKit Go.Shelf Go.Proofs.YtijaoedlhmdpnaaDoor.PTopQueriesKept Go.Proofs.YtijaoedlhmdpnaaDoorW.PrintWords

attribute [local go_sem] Oper.semAt_some

theorem SpH.own {w : World} {B B' g7 : Nat} {v : Value} {β : Type} (f : β → List Bool) (h7 : g7 < B') (hB : B ≤ B') (hw : w.heap.size ≤ B') : OwnFrom B' (fun s W => SpH w W B g7 v (f s)) := by
  intro s X Y row hs hg hr
  refine ⟨hs.ge, ?_, ?_, ?_⟩
  · exact (hg.block g7 (Array.getElem?_eq_some_iff.1 hs.blk).1 (fun e => by have := (hr g7 e.symm).1; omega)).trans hs.blk
  · exact Kd.R_grown hs.row hg (fun k hk e => by have := (hr k e.symm).1; omega)
  · exact hs.bel.grown hg hs.bel.size (fun k e => by have := (hr k e).1; omega)

theorem ownFrom_size {β : Type} (B m : Nat) : OwnFrom B (fun (_ : β) W => m ≤ W.heap.size) := fun _ _ _ _ hs hg _ => Nat.le_trans hs hg.size
theorem kpB_t {n₀ Bs : Nat} {A B C : World} (h : KpB n₀ Bs A B) (k : KpB n₀ Bs B C) : KpB n₀ Bs A C := h.trans k
theorem kpB_b {n₀ Bs : Nat} {w : World} (hn : n₀ ≤ w.heap.size) (W : World) (l : Nat) (o o' : Obj) (hl : w.heap.size ≤ l) (h : W.heap[l]? = some o) (hc : o.isCells = false) (hw : o.isWalk = false) : KpB n₀ Bs W (W.putObj l o') :=
  ⟨belowK_b hn W l o o' hl h hc hw, fun v hv => (cell_kept hv (grownBy_putObj' W l o') (fun r e => by cases e; exact ⟨o, h, hc⟩))⟩

theorem cell_setCell_far (w : World) (a : Addr) (u : Value) {q : Addr} (h : q.block ≠ a.block) : (w.setCell a u).cell? q = w.cell? q := by
  unfold World.cell?
  rw [heap_setCell_far w a u h]

set_option maxRecDepth 100000 in
set_option maxHeartbeats 4000000 in
theorem spread_up (cs : List S51) (A : Option Addr) (c0 : Nat) (xs : List Bool) (A1 : Option Addr) (c1 : Nat) (w : World) (hv : VH cs) (hC0 : Kd.C k51 w A cs.length cs) (hC : Kd.C Kd.bool w A1 xs.length xs) (hp : Plain A1) (hx : xs.length = cs.length) (hc0 : cs.length ≤ c0) :
    Calls Tryd.prog 56 #[.slice A cs.length c0, .slice A1 xs.length c1, .bool true] w fun e w' => ∃ v, e = .returned v ∧ Kd.R Kd.bool 4 w' w.heap.size (fun _ => True) v (spreadF true cs xs) ∧ Bel w w' := by
  have hn := hv.1
  have hmx : Tryd.prog.follows .mixedOrders = true := by kernel_rfl
  obtain ⟨P, c, hA⟩ := cAt_all hC0
  have hl : xs.length ≤ 60 := by omega
  have HL := Lib.hid hl
  have HP := Lib.hid hp
  clear hl hp
  have HX := Lib.hid hx
  have HC := Lib.hid hC
  have HC0 := Lib.hid hC0
  have HA := Lib.hid hA
  have HV := Lib.hid hv
  clear hC hC0 hA hv hx
  refine (callsIn_wide (n := 8)).1 ?_
  refine callsIn_of_wp_marks Tryd.func56 rfl trivial ?_ rfl
  simp only [Tryd.ntmps56, List.size_toArray, List.length_cons, List.length_nil, Nat.reduceAdd, Nat.reduceSub, Array.replicate_succ, Array.replicate_zero, List.push_toArray, List.append_toArray, List.nil_append, List.cons_append]
  gi_wp2_with (first | (refine ⟨trivial, ?_⟩; gi_at_call 67; refine (callsIn_wide.2 (clone_any xs A1 c1 _ HC.out HP.out HL.out)).mono ?_; rintro e w1 ⟨v, rfl, hr1, hb1⟩; have HR1 := Lib.hid hr1; have HB1 := Lib.hid hb1; clear hr1 hb1; obtain ⟨A', cap, rfl⟩ := Kd.R_slice HR1.out) | (refine ⟨trivial, ?_⟩; gi_at_call 68; refine (back_in _ _ trivial rfl _ _ _ _).mono ?_; rintro e w' ⟨rfl, rfl⟩))
  have HS : Hid (SpH w ((w1.alloc (.cells #[.slice A' xs.length cap] 44)).alloc (.cells #[.slice A cs.length c0] 22)) w1.heap.size w1.heap.size (.slice A' xs.length cap) xs) := by
    refine Lib.hid (SpH.alloc ⟨Bel.size HB1.out, heap_alloc_at _ rfl, Kd.R_alloc (Kd.R_mono (Kd.R_bound HR1.out) fun k hk => hk.2.2.1) _, (HB1.out.thenAlloc _)⟩ _)
  have hbx : ((w1.alloc (.cells #[.slice A' xs.length cap] 44)).alloc (.cells #[.slice A cs.length c0] 22)).cell? ⟨w1.heap.size + 1, 0, none⟩ = some (.slice A cs.length c0) := by simp
  have hsz : ((w1.alloc (.cells #[.slice A' xs.length cap] 44)).alloc (.cells #[.slice A cs.length c0] 22)).heap.size = w1.heap.size + 2 := by simp
  have HBX := Lib.hid hbx
  clear hbx
  have hw1 := Bel.size HB1.out
  have HSZ := Lib.hid hsz
  generalize (w1.alloc (.cells #[.slice A' xs.length cap] 44)).alloc (.cells #[.slice A cs.length c0] 22) = W at *
  generalize w1.heap.size = g7 at *
  refine wpIn_rangeFunc_ownH (α := { i : Nat // i < cs.length }) rfl (by decide) (gf := 76) (lb := #[.pointer (some ⟨g7 + 1, 0, none⟩)]) rfl trivial (enters_of Tryd.func76 (by kernel_rfl) rfl)
    (back_stops Fence.wide _ trivial rfl (by decide) (g7 + 1) c0 A cs hn w P c HA.out W HS.out.bel (by omega) HBX.out) (fun h k => kpB_t h k) (kpB_b (by omega)) (Below.refl _ _) (fun _ => rfl)
    (fun pre W' => SpH w W' g7 g7 (.slice A' xs.length cap) (spAll true cs (pre.map (·.1)) xs) ∧ g7 + 2 ≤ W'.heap.size)
    (fun _ _ _ => False)
    (OwnFrom.and (SpH.own _ (by omega) (by omega) (by omega)) (ownFrom_size _ _))
    (fun _ _ _ _ _ hs _ _ => hs)
    ⟨HS.out, by omega⟩
    (fun x a' W' => ∃ b9, g7 + 2 ≤ b9 ∧ W'.heap[b9]? = some (.cells #[.slice (P x.1) (cs.getD x.1 z51).f0.length (c x.1), .int .i64 (cs.getD x.1 z51).f1, .int .i64 (cs.getD x.1 z51).f2, .int .i64 (cs.getD x.1 z51).f3, .string (cs.getD x.1 z51).f4] 51 (0, 0)) ∧ a' = { tmps := #[.slice A cs.length c0, .slice A1 xs.length c1, .bool true, undef, undef, undef, .slice none 0 0, .pointer (some ⟨g7, 0, none⟩), .int .i64 (x.1 : Int), .pointer (some ⟨b9, 0, none⟩), undef, undef, undef, undef, undef, undef, .slice A1 xs.length c1, .slice A' xs.length cap, .bool true, .slice A cs.length c0, .func (.func 76) #[] #[.pointer (some ⟨g7 + 1, 0, none⟩)], .int .i64 (x.1 : Int), .agg #[.slice (P x.1) (cs.getD x.1 z51).f0.length (c x.1), .int .i64 (cs.getD x.1 z51).f1, .int .i64 (cs.getD x.1 z51).f2, .int .i64 (cs.getD x.1 z51).f3, .string (cs.getD x.1 z51).f4], undef, undef, undef, undef, undef, undef, undef, undef, undef, undef, undef, undef, undef, undef, undef, undef, undef, undef, undef, undef, undef, undef, undef, undef, undef, undef, undef, undef, undef, undef, undef, undef, undef, undef, undef, undef, undef, undef, undef, undef, undef, undef, undef, undef, undef, undef, undef, undef, undef, undef, undef, undef], defers := [] }) ?hAx ?assign ?body ?done ?stop
  case hAx =>
    rintro x a' _ X Y row ⟨b9, hb9, hh, rfl⟩ hg hr
    refine ⟨b9, hb9, (hg.block b9 (Array.getElem?_eq_some_iff.1 hh).1 (fun e => ?_)).trans hh, rfl⟩
    obtain ⟨_, o, ho, hc⟩ := hr b9 e.symm
    rw [hh] at ho; cases ho; cases hc
  case assign =>
    rintro l pre ⟨i, hi'⟩ W2 K hi hK
    simp only [cval] at hK ⊢
    generalize cs.getD i z51 = cm at *
    have HI := Lib.hid hi
    clear hi
    gi_wp2
    refine hK _ _ ((KeepsOthers.alloc _ _).from _) ⟨(Below.refl _ W2).alloc HI.out.1.bel.size _, fun v hv => (Bel.alloc W2 _).cell hv⟩ ⟨HI.out.1.alloc _, Nat.le_trans HI.out.2 (Bel.alloc W2 _).size⟩ ⟨W2.heap.size, HI.out.2, heap_alloc_at _ rfl, rfl⟩
  case body =>
    rintro l pre ⟨i, hlt⟩ a' W2 hll - ⟨hS, hsz2⟩ ⟨b9, hb9, hh, rfl⟩ -
    have hvk := HV.out.2 i hlt
    unfold pars at hvk
    obtain ⟨hv3, hvp⟩ := hvk
    have HVP := Lib.hid hvp
    clear hvp
    obtain ⟨_, -, -, -, -, -, -, -, hpc⟩ := HA.out i hlt
    have hnext : spAll true cs ((pre ++ [(⟨i, hlt⟩ : { i : Nat // i < cs.length })]).map (fun y => y.1)) xs = spIn true i (cs.getD i z51).f0 (spAll true cs (pre.map (·.1)) xs) := by
      rw [List.map_append, List.map_singleton, spAll_snoc]; rfl
    have HN := Lib.hid hnext
    clear hnext
    simp only at hh ⊢
    generalize cs.getD i z51 = cm at *
    generalize P i = pk at *
    generalize c i = ck at *
    have HPC := Lib.hid hpc
    clear hpc
    have hb90 : W2.cell? ⟨b9, 0, none⟩ = some (.slice pk cm.f0.length ck) := (blk_cell hh 0).trans rfl
    generalize hx : (⟨i, hlt⟩ : { i : Nat // i < cs.length }) = x at *
    obtain ⟨o0, ho0⟩ : ∃ o0, spAll true cs (pre.map (·.1)) xs = o0 := ⟨_, rfl⟩
    rw [ho0] at hS HN
    have HO0 := Lib.hid ho0
    clear ho0 hx hh
    have HS2 := Lib.hid hS
    clear hS
    gi_wp2
    gi_loopw [26] (fun iv wi => ∃ j : Nat, j ≤ cm.f0.length ∧ iv = .int .i64 j ∧ Hid (KeepsFrom W.heap.size W2 wi ∧ KpB w.heap.size (g7 + 1) W2 wi ∧ g7 + 2 ≤ wi.heap.size) ∧ Hid (SpH w wi g7 g7 (.slice A' xs.length cap) (spIn true i (cm.f0.take j) o0))) (fun iv _ => cm.f0.length - (intOf iv).toNat)
    case atStart => exact ⟨0, Nat.zero_le _, rfl, Lib.hid ⟨KeepsFrom.refl _ _, KpB.refl _ _ _, hsz2⟩, HS2⟩
    case round =>
      obtain ⟨j, hj, rfl, HK, HRI⟩ := hrel
      by_cases hjl : j < cm.f0.length
      · obtain ⟨hp0, hpk⟩ := HVP.out cm.f0[j] (List.getElem_mem hjl)
        obtain ⟨p, hpe⟩ := Int.eq_ofNat_of_zero_le hp0
        obtain ⟨ad2, hP, hxj⟩ := Kd.at_int (Kd.C_below HPC.out HRI.out.bel) (j : Int) (by omega) (by omega)
        subst hP
        rw [rd_nat, List.getD_eq_getElem?_getD, List.getElem?_eq_getElem hjl, Option.getD_some, hpe, Int.toNat_natCast] at hxj
        have HNX := Lib.hid (spIn_take true i cm.f0 o0 j hjl p hpe)
        rw [hpe] at hpk
        clear hpe hp0
        generalize spIn true i (cm.f0.take j) o0 = o1 at *
        have hl1 : o1.length = xs.length := (Kd.R_reads' HRI.out.row).1.symm
        have hlk : i < xs.length := by rw [HX.out]; omega
        have hlp : p < xs.length := by omega
        obtain ⟨g, cap', hform, _⟩ := Kd.R_form HRI.out.row (by omega)
        injection hform with hform1 hform2 hform3
        subst hform1
        clear hform2 hform3
        obtain ⟨h7, h7f⟩ := HRI.out.cell7
        obtain ⟨hck, hcf⟩ := HRI.out.cell i hlk
        obtain ⟨hcp, hpf⟩ := HRI.out.cell p hlp
        generalize hq : o1[i]?.getD false = bk at *
        generalize hq2 : o1[p]?.getD false = bp at *
        have HQ := Lib.hid hq
        have HQ2 := Lib.hid hq2
        clear hq hq2
        have b1 : (0 : Int) ≤ (i : Int) := by omega
        have b2 : (i : Int) < (xs.length : Int) := by omega
        have b3 : (0 : Int) ≤ (p : Int) := by omega
        have b4 : (p : Int) < (xs.length : Int) := by omega
        have hgB : g < g7 := HRI.out.row.1 g rfl
        cases bp with
        | true =>
          gi_wp2
          refine region_round_tail 13 hmx (by kernel_rfl) (by kernel_rfl) (fun ⟨_, _, h⟩ => h) ?_
          simp only [List.take_succ_cons, List.take_zero, List.drop_succ_cons, List.drop_zero]
          repeat still_step
          try refine wpStill_nil ?_
          change wpList _ _ _ _ _ wr.drew
          go_wp2
          gi_wp2
          go_roundw
          case rel =>
            refine ⟨j + 1, by omega, rfl, Lib.hid ⟨HK.out.1.trans (((KeepsOthers.setCell _ _ _).trans (KeepsOthers.drew _)).from _), HK.out.2.1.trans ⟨((Below.refl _ wr).setCell (p := ⟨g, p, none⟩) HRI.out.ge' _).drew, fun v hv => ?_⟩, ?_⟩, Lib.hid ?_⟩
            · exact (cell_setCell_far _ ⟨g, p, none⟩ _ (q := ⟨g7 + 1, 0, none⟩) (by simp; omega)).trans hv
            · have := HK.out.2.2; simpa using this
            · rw [HNX.out]; simp only [if_true, List.getD_eq_getElem?_getD, HQ.out, HQ2.out, Bool.true_or, Bool.false_or]; exact (HRI.out.put p _).drew
          case measure => simp [intOf]; omega
        | false =>
          gi_wp2
          refine region_round_tail 13 hmx (by kernel_rfl) (by kernel_rfl) (fun ⟨_, _, h⟩ => h) ?_
          simp only [List.take_succ_cons, List.take_zero, List.drop_succ_cons, List.drop_zero]
          repeat still_step
          try refine wpStill_nil ?_
          change wpList _ _ _ _ _ wr.drew
          go_wp2
          gi_wp2
          go_roundw
          case rel =>
            refine ⟨j + 1, by omega, rfl, Lib.hid ⟨HK.out.1.trans (((KeepsOthers.setCell _ _ _).trans (KeepsOthers.drew _)).from _), HK.out.2.1.trans ⟨((Below.refl _ wr).setCell (p := ⟨g, p, none⟩) HRI.out.ge' _).drew, fun v hv => ?_⟩, ?_⟩, Lib.hid ?_⟩
            · exact (cell_setCell_far _ ⟨g, p, none⟩ _ (q := ⟨g7 + 1, 0, none⟩) (by simp; omega)).trans hv
            · have := HK.out.2.2; simpa using this
            · rw [HNX.out]; simp only [if_true, List.getD_eq_getElem?_getD, HQ.out, HQ2.out, Bool.true_or, Bool.false_or]; exact (HRI.out.put p _).drew
          case measure => simp [intOf]; omega
      · obtain rfl : j = cm.f0.length := by omega
        gi_wp2
        refine ⟨HK.out.1, HK.out.2.1, ?_, HK.out.2.2⟩
        rw [HN.out]
        have := HRI.out
        rwa [List.take_length] at this
  case done =>
    rintro D ys W2 hD hys ⟨hI, hsz2⟩ hK
    have hf : spAll true cs (ys.map (·.1)) xs = spreadF true cs xs := by rw [hys]; rfl
    rw [hf] at hI
    have HI := Lib.hid hI
    obtain ⟨h7, h7f⟩ := hI.cell7
    clear hI hf
    gi_wp2
    refine ⟨by simp, .inl ⟨_, _, rfl, run_takeDeferred hK, ?_⟩⟩
    have hDg : g7 + 2 ≤ D := by have := HSZ.out; omega
    exact ⟨_, results_tmp rfl _ _ _, _, rfl, Kd.R_mono (Kd.R_grown HI.out.row (grownBy_putObj' W2 D _) (fun k hk e => by cases e; omega)) (fun _ _ => trivial), HI.out.bel.trans (belowK_b (w := w) (Nat.le_refl _) W2 D _ _ (by omega) hK rfl rfl)⟩
  case stop =>
    rintro D c pre W _ _ h _
    exact h.elim

/-- revset.spread. -/
theorem spread_any (cs : List S51) (A : Option Addr) (c0 : Nat) (xs : List Bool) (A1 : Option Addr) (c1 : Nat) (up : Bool) (w : World) (hv : VH cs) (hC0 : Kd.C k51 w A cs.length cs) (hC : Kd.C Kd.bool w A1 xs.length xs) (hp : Plain A1) (hx : xs.length = cs.length) (hc0 : cs.length ≤ c0) :
    Calls Tryd.prog 56 #[.slice A cs.length c0, .slice A1 xs.length c1, .bool up] w fun e w' => ∃ v, e = .returned v ∧ Kd.R Kd.bool 4 w' w.heap.size (fun _ => True) v (spreadF up cs xs) ∧ Bel w w' := by
  cases up with
  | true => exact spread_up cs A c0 xs A1 c1 w hv hC0 hC hp hx hc0
  | false => exact spread_down cs A c0 xs A1 c1 w hv hC0 hC hp hx hc0

end Go.Proofs.YtijaoedlhmdpnaaDoor
/- slices.Repeat([]bool{true}, n) walked. -/
namespace Go.Proofs.YtijaoedlhmdpnaaDoor
open Go.RowKit Go.Proofs.YtijaoedlhmdpnaaDoor.PTopQueriesKept Go.Proofs.YtijaoedlhmdpnaaDoorW.PrintWords

/-- m of n are true. -/
def rep (n m : Nat) : List Value := List.replicate m (Value.bool true) ++ List.replicate (n - m) (Value.bool false)
theorem rep_length {n m : Nat} (h : m ≤ n) : (rep n m).length = n := by simp [rep]; omega
theorem rep_splice {n m k : Nat} (h : m + k ≤ n) : splice (rep n m) m (List.replicate k (Value.bool true)) = rep n (m + k) := by
  unfold splice rep
  apply List.ext_getElem?
  intro j
  simp only [List.getElem?_append, List.getElem?_take, List.getElem?_drop, List.getElem?_replicate, List.length_take, List.length_append, List.length_replicate]
  split <;> split <;> split <;> (try split) <;> (try split) <;> (try split) <;> first | rfl | omega | (congr 1; omega)

theorem made_rep (n : Nat) : madeCells #[Value.bool false] n = (rep n 0).toArray := by
  simp only [rep, madeCells]
  apply Array.ext
  · simp
  · intro i h1 h2
    have h : ∀ k, ([Value.bool false][k % 1]?).getD default = Value.bool false := fun k => by rw [Nat.mod_one]; rfl
    simp [h]

theorem mul1_any (n : Nat) (hn : n ≤ 60) (w : World) : Calls Tryd.prog 66 #[.int .u64 1, .int .u64 (n : Int)] w fun e w' => e = .returned (.tuple #[.int .u64 0, .int .u64 (n : Int)]) ∧ w' = w := by
  have h := Tryd.bits_Mul 1 n (by omega) (by omega) w
  rw [show 1 * n / 18446744073709551616 = 0 by omega, show 1 * n % 18446744073709551616 = n by omega] at h
  exact h

/-- copy of [true] into what has been made. -/
theorem copy0 {w : World} {ops : Array Oper} {rest : List Oper} {o : Oper} {a : Act} {Q : Exit → Act → World → Prop} {n b off c : Nat} (d s : Operand) (hgd : o.guard = none)
    (ho : o.op = .call { callee := .builtin .copy, args := #[d, s], argTypes := #[44, 44] }) (hd : a.eval d = .slice (some ⟨w.heap.size, 0, none⟩) n n) (hs : a.eval s = .slice (some ⟨b, off, none⟩) 1 c) (hn : n ≤ 60)
    (hx : w.cell? ⟨b, off, none⟩ = some (.bool true))
    (h : ∀ w', Hid (w'.heap[w.heap.size]? = some (.cells (rep n (min 1 n)).toArray 4 (0, 0))) → Below w.heap.size w w' → wpList Tryd.prog ops Q rest (a.put o.dst (.int .i64 ((min 1 n : Nat) : Int))) w') :
    wpList Tryd.prog ops Q (o :: rest) a (w.alloc (Obj.cells (rep n 0).toArray 4 (0, 0))) := by
  refine wpList_copy_splice hgd d s 44 44 ho 4 Tryd.underlying44 (by kernel_rfl) _ _ _ _ _ _ hd hs w.heap.size 0 (rep n 0) 4 (heap_alloc_at _ rfl) (List.replicate (min 1 n) (.bool true)) (by rw [List.length_replicate]) ?_ (by rw [rep_length (by omega), List.length_replicate]; omega) (by simp [Value.oneCell']) w.heap.size w ((Below.refl _ w).alloc (Nat.le_refl _) _) (Nat.le_refl _) ?_
  · intro _
    refine ⟨rfl, _, rfl, ?_⟩
    intro j v hj
    obtain ⟨h1, h2⟩ := List.getElem?_eq_some_iff.1 hj
    rw [List.length_replicate] at h1
    obtain rfl : j = 0 := by omega
    rw [← h2, Addr.add_zero']
    simpa using (Bel.alloc w _).cell hx
  · intro w' h1 h2
    have h3 := rep_splice (n := n) (m := 0) (k := min 1 n) (by omega)
    rw [h3, Nat.zero_add] at h1
    have := h w' h1 h2
    rwa [List.length_replicate]

/-- copy of the first m behind them, as one step of a region. -/
theorem copy1 {ops : Array Oper} {o : Oper} {a : Act} {w w0 : World} {K : Act → World → Prop} {Q : Exit → Act → World → Prop} {E : Prop} {n m g : Nat} (hgd : o.guard = none) (d s : Operand)
    (ho : o.op = .call { callee := .builtin .copy, args := #[d, s], argTypes := #[44, 44] }) (hd : a.eval d = .slice (if n = m then some ⟨g, 0, none⟩ else some ⟨g, m, none⟩) (n - m) (n - m)) (hs : a.eval s = .slice (some ⟨g, 0, none⟩) m n) (hn : m < n)
    (hg : Hid (w.heap[g]? = some (.cells (rep n m).toArray 4 (0, 0)))) (hb : Hid (Below g w0 w))
    (h : ∀ w', Hid (w'.heap[g]? = some (.cells (rep n (m + min m (n - m))).toArray 4 (0, 0))) → Hid (Below g w0 w') → K (a.put o.dst (.int .i64 ((min m (n - m) : Nat) : Int))) w') :
    if Region.wanted o (yielded ops a.tmps) = true then Oper.wp Tryd.prog o a w K Q else E := by
  rw [if_neg (by omega)] at hd
  refine step_copy_splice hgd d s 44 44 ho 4 Tryd.underlying44 (by kernel_rfl) _ _ _ _ _ _ hd hs g m (rep n m) 4 hg.out (List.replicate (min m (n - m)) (.bool true)) (by rw [List.length_replicate]) ?_ (by rw [rep_length (by omega), List.length_replicate]; omega) (fun v hv => by rw [(List.mem_replicate.1 hv).2]; rfl) g w0 hb.out (Nat.le_refl _) ?_
  · intro _
    refine ⟨rfl, _, rfl, ?_⟩
    intro j v hj
    obtain ⟨h1, h2⟩ := List.getElem?_eq_some_iff.1 hj
    rw [List.length_replicate] at h1
    rw [← h2, Addr.add_lit, Nat.zero_add]
    have := blk_cell hg.out j
    rw [this]
    have hj : j < m := by omega
    simp [rep, hj, List.getElem?_append]
  · intro w' h1 h2
    have h3 := rep_splice (n := n) (m := m) (k := min m (n - m)) (by omega)
    rw [h3] at h1
    have := h w' h1 (Lib.hid h2)
    rwa [List.length_replicate]

set_option maxRecDepth 100000 in
set_option maxHeartbeats 4000000 in
theorem repeat_any (n : Nat) (hn : n ≤ 60) (b off c : Nat) (w : World) (hx : w.cell? ⟨b, off, none⟩ = some (.bool true)) :
    Calls Tryd.prog 54 #[.slice (some ⟨b, off, none⟩) 1 c, .int .i64 (n : Int)] w fun e w' => ∃ v, e = .returned v ∧ Kd.R Kd.bool 4 w' w.heap.size (fun _ => True) v (List.replicate n true) ∧ Bel w w' := by
  have hmk := run_make_row' (P := Tryd.prog) 44 4 (.bool false) 1 Tryd.underlying44 info4 rfl .i64 .i64 n (by omega) (by omega)
  rw [made_rep] at hmk
  have h1 : IntKind.u64.wrap (n : Int) = (n : Int) := IntWalk.u64_in _ (by omega)
  go_enter Tryd.func54, Tryd.ntmps54
  go_wp2_with (first | (go_at_call 66; go_must (refine (mul1_any n hn _).mono ?_); rintro e w1 ⟨rfl, rfl⟩) | (refine copy0 (.tmp 31) (.tmp 32) rfl rfl rfl rfl hn hx ?_; intro w2 hg2 hb2))
  have HB := Lib.hid hb2
  clear hb2 hmk
  generalize hgb : w1.heap.size = g at *
  have HGB := Lib.hid hgb
  clear hgb
  go_loopw [8] (fun i wr => ∃ m : Nat, m ≤ n ∧ (m = 0 → n = 0) ∧ i = .int .i64 m ∧ Hid (wr.heap[g]? = some (.cells (rep n m).toArray 4 (0, 0))) ∧ Hid (Below g w1 wr)) (fun i _ => n - (intOf i).toNat)
  case atStart => exact ⟨min 1 n, by omega, by omega, by first | rfl | simp, hg2, HB⟩
  case round =>
    obtain ⟨m, hm, hm0, rfl, hg, hb⟩ := hrel
    by_cases hlt : m < n
    · go_wp2_with fail
      have e1 : (0 : Int) ≤ (m : Int) := by omega
      have e2 : (m : Int) ≤ (n : Int) := by omega
      go_region_law (refine copy1 (n := n) (m := m) (g := g) (w0 := w1) rfl (.tmp 41) (.tmp 44) rfl (by simp [Act.eval, Act.put]) (by simp [Act.eval, Act.put]) hlt (Lib.hid hg.out) (Lib.hid (hb.out.drew)) ?_; intro w3 hg3 hb3)
      all_goals
        go_wp2_with fail
        go_roundw
        case rel =>
          exact ⟨m + min m (n - m), by omega, by omega, by rw [IntWalk.i64_in _ (by omega)]; omega, hg3⟩
        case measure =>
          simp only [intOf, Array.getD_eq_getD_getElem?, List.getElem?_toArray, List.getElem?_cons_succ, List.getElem?_cons_zero, Option.getD_some]
          rw [IntWalk.i64_in _ (by omega)]
          omega
    · obtain rfl : m = n := by omega
      go_wp2_with fail
      go_ret
      refine ⟨_, rfl, Kd.R_of_own (enc := Value.bool) ?_ (fun _ _ => trivial), by have := hb.out; rwa [← HGB.out] at this⟩
      have hgl := HGB.out
      refine ⟨by simp [encs], .inr ⟨g, m, (rep m m).toArray, by simp, by omega, hg.out, by simp, by unfold maxLen; omega, by simp [rep], ?_⟩⟩
      simp [rep, encs]

end Go.Proofs.YtijaoedlhmdpnaaDoor
/- Selections as values; without, step, spread, Repeat under one form; revset.eval: what it computes. -/
namespace Go.Proofs.YtijaoedlhmdpnaaDoor
open Go.RowKit Go.Proofs.YtijaoedlhmdpnaaDoor.PTopQueriesKept Go.Proofs.YtijaoedlhmdpnaaDoorW.PrintWords

/-- A slice of bools lies plainly, in a block of bools. -/
def PlainT (w : World) (A : Option Addr) : Prop := A = none ∨ ∃ g o cells, A = some ⟨g, o, none⟩ ∧ w.heap[g]? = some (.cells cells 4 (0, 0))
theorem PlainT.plain {w : World} {A : Option Addr} (h : PlainT w A) : Plain A := by
  rcases h with h | ⟨g, o, _, h, _⟩
  · exact .inl h
  · exact .inr ⟨g, o, h⟩
/-- The value v is a slice of n elements that reads xs. -/
def SelV (w : World) (n : Nat) (v : Value) (xs : List Bool) : Prop := ∃ A c, v = .slice A n c ∧ n ≤ c ∧ PlainT w A ∧ Kd.C Kd.bool w A n xs
theorem SelV.bel {w w' : World} {n : Nat} {v : Value} {xs : List Bool} (h : SelV w n v xs) (hb : Bel w w') : SelV w' n v xs := by
  obtain ⟨A, c, e, h1, h2, h3⟩ := h
  refine ⟨A, c, e, h1, ?_, Kd.C_below h3 hb⟩
  rcases h2 with h | ⟨g, o, cells, h, hg⟩
  · exact .inl h
  · exact .inr ⟨g, o, cells, h, hb.heap hg⟩
/-- A row of another type has been written. -/
theorem SelV.grown {w w' : World} {n : Nat} {v : Value} {xs : List Bool} {row : Option Nat} (h : SelV w n v xs) (hg : w.grownBy w' row) (hrow : ∀ k cells, row = some k → w.heap[k]? ≠ some (.cells cells 4 (0, 0))) : SelV w' n v xs := by
  obtain ⟨A, c, e, h1, h2, h3⟩ := h
  rcases h2 with rfl | ⟨g, o, cells, rfl, hb⟩
  · refine ⟨none, c, e, h1, .inl rfl, h3.1, h3.2.1, fun hn => ?_⟩
    obtain ⟨ad, e, _⟩ := h3.2.2 hn
    cases e
  · have hs : w'.heap[g]? = w.heap[g]? := hg.block g (Array.getElem?_eq_some_iff.1 hb).1 (fun e => hrow g cells e.symm hb)
    refine ⟨_, c, e, h1, .inr ⟨g, o, cells, rfl, hs.trans hb⟩, h3.1, h3.2.1, fun hn => ?_⟩
    obtain ⟨ad, e, hc⟩ := h3.2.2 hn
    have e' := Option.some.inj e
    subst e'
    refine ⟨_, rfl, fun j p hj => ?_⟩
    obtain ⟨c', h4, h5, h6⟩ := hc j p hj
    refine ⟨c', h4, h5, fun i u hi => ?_⟩
    rw [← h6 i u hi]
    unfold World.cell?
    have hbk : (Addr.add ⟨g, o, none⟩ (j * Kd.bool.sz + i)).block = g := by unfold Addr.add; split <;> rfl
    rw [hbk, hs]
theorem SelV.len {w : World} {n : Nat} {v : Value} {xs : List Bool} (h : SelV w n v xs) : xs.length = n := by
  obtain ⟨A, c, e, h1, h2, h3⟩ := h
  exact Kd.C_len h3
theorem SelV.of_R {w : World} {base : Nat} {ok : Nat → Prop} {v : Value} {xs : List Bool} (h : Kd.R Kd.bool 4 w base ok v xs) : SelV w xs.length v xs := by
  obtain ⟨A, c, rfl, h1, h2⟩ := Kd.R_reads h
  refine ⟨A, c, rfl, h1, ?_, h2⟩
  cases A with
  | none => exact .inl rfl
  | some ad =>
    obtain ⟨g, rfl⟩ := Kd.R_head h
    obtain ⟨inner, ho⟩ := Kd.R_own h
    obtain ⟨cells, hc⟩ := own_typed ho g rfl
    exact .inr ⟨g, 0, cells, rfl, hc⟩
/-- A selection of n comes back. -/
def RetSel (w : World) (n : Nat) (xs : List Bool) (e : Ending) (w' : World) : Prop := ∃ A c, e = .returned (.slice A n c) ∧ SelV w' n (.slice A n c) xs ∧ Bel w w'
theorem RetSel.of_R {w : World} {n : Nat} {xs : List Bool} {e : Ending} {w' : World} (hn : xs.length = n) (h : ∃ v, e = .returned v ∧ Kd.R Kd.bool 4 w' w.heap.size (fun _ => True) v xs ∧ Bel w w') : RetSel w n xs e w' := by
  obtain ⟨v, rfl, hr, hb⟩ := h
  subst hn
  have hs := SelV.of_R hr
  obtain ⟨A, c, rfl, -⟩ := id hs
  exact ⟨A, c, rfl, hs, hb⟩

theorem made_R (w W : World) (n : Nat) (hn : n ≤ 60) (h : w.heap.size ≤ W.heap.size) : Kd.R Kd.bool 4 (W.alloc (.cells (rep n 0).toArray 4 (0, 0))) w.heap.size (fun _ => True) (.slice (some ⟨W.heap.size, 0, none⟩) n n) (List.replicate n false) := by
  have hx : n = (List.replicate n false).length := by simp
  refine Kd.R_of_own (enc := Value.bool) ?_ (fun _ _ => trivial)
  refine ⟨by simp [encs], .inr ⟨W.heap.size, n, (rep n 0).toArray, by simp, h, heap_alloc_at _ rfl, by simp, by unfold maxLen; omega, by simp [rep], by simp [rep, encs]⟩⟩

/-- A slice of the call's own under way. -/
structure OwH (w wr : World) (v : Value) (out : List Bool) : Prop where
  row : Kd.R Kd.bool 4 wr w.heap.size (fun _ => True) v out
  bel : Below w.heap.size w wr
section
variable {w wr : World} {g n cap : Nat} {v : Value} {out : List Bool}
theorem OwH.alloc (h : OwH w wr v out) (o : Obj) : OwH w (wr.alloc o) v out := ⟨Kd.R_alloc h.row o, h.bel.alloc (by have := h.bel.size; omega) o⟩
theorem OwH.put (h : OwH w wr (.slice (some ⟨g, 0, none⟩) n cap) out) (i : Nat) (b : Bool) : OwH w (wr.setCell ⟨g, i, none⟩ (.bool b)) (.slice (some ⟨g, 0, none⟩) n cap) (out.set i b) :=
  ⟨Kd.R_putn h.row (i : Int) b, h.bel.setCell (p := ⟨g, i, none⟩) (Kd.R_base h.row g rfl) _⟩
theorem OwH.cell (h : OwH w wr (.slice (some ⟨g, 0, none⟩) n cap) out) (i : Nat) (hi : i < n) : wr.cell? ⟨g, i, none⟩ = some (.bool (out.getD i false)) ∧ wr.frozen? ⟨g, i, none⟩ = false := by
  have := Kd.R_celln false h.row (i : Int) (by omega) (by omega)
  simpa [rdOf] using this
end
/-- The selection's cell i, later. -/
theorem SelV.at {w : World} {n : Nat} {A : Option Addr} {c : Nat} {xs : List Bool} (h : SelV w n (.slice A n c) xs) (i : Nat) (hi : i < n) : ∃ ad, A = some ad ∧ w.cell? (ad.add i) = some (.bool (xs.getD i false)) := by
  obtain ⟨A', c', e, _, _, hC⟩ := h
  injection e with e _ _
  subst e
  obtain ⟨ad, h1, h2⟩ := Kd.at_bool hC (i : Int) (by omega) (by omega)
  rw [rdOf_nat', Int.toNat_natCast] at h2
  exact ⟨ad, h1, h2⟩

/-- j of n values of f. -/
def prt (f : Nat → Bool) (n j : Nat) : List Bool := (List.range j).map f ++ List.replicate (n - j) false
theorem prt_set (f : Nat → Bool) {n j : Nat} (hj : j < n) : (prt f n j).set j (f j) = prt f n (j + 1) := by
  unfold prt
  rw [List.set_append_right (h := by simp), List.range_succ, List.map_append, show n - j = (n - (j + 1)) + 1 by omega, List.replicate_succ]
  simp
theorem prt_zero (f : Nat → Bool) (n : Nat) : prt f n 0 = List.replicate n false := by simp [prt]
theorem prt_without (a b : List Bool) (h : a.length = b.length) : prt (fun i => a.getD i false && !b.getD i false) a.length a.length = withoutF a b := by
  apply List.ext_getElem
  · simp [prt, withoutF, h]
  · intro i h1 h2
    have h3 : i < a.length := by simpa [prt] using h1
    have h4 : i < b.length := by omega
    simp [prt, withoutF, h3, h4]

set_option maxRecDepth 100000 in
set_option maxHeartbeats 4000000 in
theorem without_sel {n : Nat} {a b : List Bool} {va vb : Value} {w : World} (ha : SelV w n va a) (hb : SelV w n vb b) (hn : n ≤ 60) : Calls Tryd.prog 55 #[va, vb] w (RetSel w n (withoutF a b)) := by
  have e1 := ha.len
  have e2 := hb.len
  have hmk := run_make_row' (P := Tryd.prog) 44 4 (.bool false) 1 Tryd.underlying44 info4 rfl .i64 .i64 n (by omega) (by omega)
  rw [made_rep] at hmk
  have HFIN := Lib.hid (prt_without a b (by omega))
  have HZ := Lib.hid (prt_zero (fun i => a.getD i false && !b.getD i false) n)
  have HLN := Lib.hid (show (withoutF a b).length = n by simp [withoutF, e1, e2])
  obtain ⟨A, c, rfl, -⟩ := id ha
  obtain ⟨B, d, rfl, -⟩ := id hb
  have HA := Lib.hid ha
  have HB := Lib.hid hb
  have HE := Lib.hid e1
  clear ha hb e1 e2
  go_enter Tryd.func55, Tryd.ntmps55
  go_wp2_with fail
  have HS : Hid (OwH w (w.alloc (Obj.cells (rep n 0).toArray 4 (0, 0))) (.slice (some ⟨w.heap.size, 0, none⟩) n n) (prt (fun i => a.getD i false && !b.getD i false) n 0)) := Lib.hid ⟨HZ.out ▸ made_R w w n hn (Nat.le_refl _), Bel.alloc w _⟩
  clear hmk
  generalize (w.alloc (Obj.cells (rep n 0).toArray 4 (0, 0))) = W at *
  obtain ⟨g, hg⟩ : ∃ g, w.heap.size = g := ⟨_, rfl⟩
  rw [hg] at HS ⊢
  clear hg
  go_loopw [12] (fun i wr => ∃ j : Nat, j ≤ n ∧ i = .int .i64 j ∧ Hid (OwH w wr (.slice (some ⟨g, 0, none⟩) n n) (prt (fun i => a.getD i false && !b.getD i false) n j))) (fun i _ => n - (intOf i).toNat)
  case atStart => exact ⟨0, Nat.zero_le _, rfl, HS⟩
  case round =>
    obtain ⟨j, hj, rfl, HO⟩ := hrel
    by_cases hlt : j < n
    · obtain ⟨ada, rfl, ca⟩ := (HA.out.bel HO.out.bel).at j hlt
      obtain ⟨adb, rfl, cb⟩ := (HB.out.bel HO.out.bel).at j hlt
      obtain ⟨co, cf⟩ := HO.out.cell j hlt
      have hlg : g < wr.heap.size := Kd.R_lt HO.out.row g rfl
      have HP := Lib.hid (prt_set (fun i => a.getD i false && !b.getD i false) hlt)
      generalize hq : a.getD j false = qa at *
      generalize hq2 : b.getD j false = qb at *
      have HQ := Lib.hid hq
      have HQ2 := Lib.hid hq2
      clear hq hq2
      cases qa
      all_goals
        go_wp2_with fail
        go_roundw
        case rel => exact ⟨j + 1, by omega, rfl, Lib.hid (by rw [← HP.out]; exact HO.out.put j _)⟩
        case measure => simp [intOf]; omega
    · obtain rfl : j = n := by omega
      go_wp2_with fail
      go_ret
      have hs := SelV.of_R HO.out.row
      have hp : prt (fun i => a.getD i false && !b.getD i false) j j = withoutF a b := by have := HFIN.out; rwa [HE.out] at this
      rw [hp, HLN.out] at hs
      exact ⟨_, _, rfl, hs, HO.out.bel⟩

/-! ### one step -/
def stOne (up : Bool) (xs : List Bool) (i : Nat) (out : List Bool) (p : Int) : List Bool := if up = true then out.set p.toNat (out.getD p.toNat false || xs.getD i false) else out.set i (out.getD i false || xs.getD p.toNat false)
theorem stepIn_fold (up : Bool) (xs : List Bool) (i : Nat) : ∀ (ps : List Int) (out : List Bool), stepIn up xs i ps out = ps.foldl (stOne up xs i) out
  | [], _ => rfl
  | p :: ps, out => by rw [stepIn, stepIn_fold up xs i ps]; rfl
theorem stepIn_take (up : Bool) (xs : List Bool) (i : Nat) (ps : List Int) (out : List Bool) (j : Nat) (hj : j < ps.length) (p : Nat) (hp : ps[j] = (p : Int)) : stepIn up xs i (ps.take (j + 1)) out = stOne up xs i (stepIn up xs i (ps.take j) out) p := by
  rw [stepIn_fold, stepIn_fold, List.take_succ_eq_append_getElem hj, hp, List.foldl_append]
  rfl
/-- Behind k commits. -/
def stK (up : Bool) (cs : List S51) (xs : List Bool) (k : Nat) : List Bool := (List.range k).foldl (fun out i => stepIn up xs i (pars cs i) out) (List.replicate cs.length false)
theorem stK_succ (up : Bool) (cs : List S51) (xs : List Bool) (k : Nat) : stK up cs xs (k + 1) = stepIn up xs k (pars cs k) (stK up cs xs k) := by simp [stK, List.range_succ]
theorem stepFrom_fold (up : Bool) (cs : List S51) (xs : List Bool) : ∀ (d i : Nat), stepFrom up cs xs d i (stK up cs xs i) = stK up cs xs (i + d)
  | 0, i => rfl
  | d + 1, i => by rw [stepFrom, ← stK_succ, stepFrom_fold up cs xs d (i + 1)]; congr 1; omega
theorem stK_all (up : Bool) (cs : List S51) (xs : List Bool) : stK up cs xs cs.length = stepF up cs xs := by
  have := stepFrom_fold up cs xs cs.length 0
  rw [Nat.zero_add] at this
  exact this.symm
theorem stK_length (up : Bool) (cs : List S51) (xs : List Bool) (k : Nat) : (stK up cs xs k).length = cs.length := by
  induction k with
  | zero => simp [stK]
  | succ k ih => rw [stK_succ, stepIn_length, ih]

set_option maxRecDepth 100000 in
set_option maxHeartbeats 8000000 in
theorem step_sel {cs : List S51} {A : Option Addr} {c : Nat} {xs : List Bool} {v : Value} (up : Bool) {w : World} (hv : VH cs) (hC : Kd.C k51 w A cs.length cs) (hc : cs.length ≤ c) (hx : SelV w cs.length v xs) : Calls Tryd.prog 57 #[.slice A cs.length c, v, .bool up] w (RetSel w cs.length (stepF up cs xs)) := by
  obtain ⟨n, hn⟩ : ∃ n, cs.length = n := ⟨_, rfl⟩
  have hn60 := hv.1
  obtain ⟨P, cc, hA⟩ := cAt_all hC
  rw [hn] at hx hA hn60 ⊢
  have hmk := run_make_row' (P := Tryd.prog) 44 4 (.bool false) 1 Tryd.underlying44 info4 rfl .i64 .i64 n (by omega) (by omega)
  rw [made_rep] at hmk
  obtain ⟨B, d, rfl, -⟩ := id hx
  have HX := Lib.hid hx
  have HA := Lib.hid hA
  have HV := Lib.hid hv
  have HN := Lib.hid hn
  have HZ := Lib.hid (show List.replicate n false = stK up cs xs 0 by simp [stK, hn])
  clear hx hA hv hC hn
  go_enter Tryd.func57, Tryd.ntmps57
  go_wp2_with fail
  have HS : Hid (OwH w (w.alloc (Obj.cells (rep n 0).toArray 4 (0, 0))) (.slice (some ⟨w.heap.size, 0, none⟩) n n) (stK up cs xs 0)) := Lib.hid ⟨HZ.out ▸ made_R w w n hn60 (Nat.le_refl _), Bel.alloc w _⟩
  clear hmk
  generalize (w.alloc (Obj.cells (rep n 0).toArray 4 (0, 0))) = W at *
  obtain ⟨g, hg⟩ : ∃ g, w.heap.size = g := ⟨_, rfl⟩
  rw [hg] at HS ⊢
  clear hg
  go_loopw [17] (fun i wr => ∃ k : Nat, k ≤ n ∧ i = .int .i64 k ∧ Hid (OwH w wr (.slice (some ⟨g, 0, none⟩) n n) (stK up cs xs k))) (fun i _ => n - (intOf i).toNat)
  case atStart => exact ⟨0, Nat.zero_le _, rfl, HS⟩
  case round =>
    obtain ⟨k, hk, rfl, HR⟩ := hrel
    by_cases hlt : k < n
    · obtain ⟨ad, rfl, hx0, hx1, hx2, hx3, hx4, hpl, hpc⟩ := HA.out k hlt
      replace hx0 := (HR.out.bel.cell (World.block_lt_of_cell? w _ hx0)).trans hx0
      replace hx1 := (HR.out.bel.cell (World.block_lt_of_cell? w _ hx1)).trans hx1
      replace hx2 := (HR.out.bel.cell (World.block_lt_of_cell? w _ hx2)).trans hx2
      replace hx3 := (HR.out.bel.cell (World.block_lt_of_cell? w _ hx3)).trans hx3
      replace hx4 := (HR.out.bel.cell (World.block_lt_of_cell? w _ hx4)).trans hx4
      have hvk := HV.out.2 k (by rw [HN.out]; exact hlt)
      unfold pars at hvk
      obtain ⟨hv3, hvp⟩ := hvk
      have HVP := Lib.hid hvp
      have HNX := Lib.hid (stK_succ up cs xs k)
      unfold pars at HNX
      clear hvp
      generalize cs.getD k z51 = cm at *
      generalize P k = pk at *
      generalize cc k = ck at *
      have HPC := Lib.hid hpc
      clear hpc
      have HS1 := Lib.hid (HR.out.alloc (Obj.cells #[.slice pk cm.f0.length ck, .int .i64 cm.f1, .int .i64 cm.f2, .int .i64 cm.f3, .string cm.f4] 51 (0, 0)))
      go_wp2_with fail
      clear hx0 hx1 hx2 hx3 hx4
      generalize wr.alloc (Obj.cells #[.slice pk cm.f0.length ck, .int .i64 cm.f1, .int .i64 cm.f2, .int .i64 cm.f3, .string cm.f4] 51 (0, 0)) = W2 at *
      have hl0 : (stK up cs xs k).length = n := by rw [stK_length, HN.out]
      obtain ⟨o0, ho0⟩ : ∃ o0, stK up cs xs k = o0 := ⟨_, rfl⟩
      rw [ho0] at HS1 HNX hl0
      clear ho0
      go_loopw [25] (fun i wi => ∃ j : Nat, j ≤ cm.f0.length ∧ i = .int .i64 j ∧ Hid (OwH w wi (.slice (some ⟨g, 0, none⟩) n n) (stepIn up xs k (cm.f0.take j) o0))) (fun i _ => cm.f0.length - (intOf i).toNat)
      case atStart => exact ⟨0, Nat.zero_le _, rfl, HS1⟩
      case round =>
        obtain ⟨j, hj, rfl, HRI⟩ := hrel
        by_cases hjl : j < cm.f0.length
        · obtain ⟨hp0, hpk⟩ := HVP.out cm.f0[j] (List.getElem_mem hjl)
          obtain ⟨p, hpe⟩ := Int.eq_ofNat_of_zero_le hp0
          obtain ⟨ad2, hP, hxj⟩ := Kd.at_int (Kd.C_below HPC.out HRI.out.bel) (j : Int) (by omega) (by omega)
          subst hP
          rw [rd_nat, List.getD_eq_getElem?_getD, List.getElem?_eq_getElem hjl, Option.getD_some, hpe, Int.toNat_natCast] at hxj
          have HT := Lib.hid (stepIn_take up xs k cm.f0 o0 j hjl p hpe)
          rw [hpe] at hpk
          clear hpe hp0
          generalize stepIn up xs k (cm.f0.take j) o0 = o1 at *
          have hpn : p < n := by omega
          obtain ⟨hck, hcf⟩ := HRI.out.cell k hlt
          obtain ⟨hcp, hpf⟩ := HRI.out.cell p hpn
          obtain ⟨adk, rfl, hxk⟩ := (HX.out.bel HRI.out.bel).at k hlt
          obtain ⟨adk', e', hxp⟩ := (HX.out.bel HRI.out.bel).at p hpn
          injection e' with e'
          subst e'
          have hlg : g < wr.heap.size := Kd.R_lt HRI.out.row g rfl
          generalize hq : o1.getD k false = bk at *
          generalize hq2 : o1.getD p false = bp at *
          generalize hq3 : xs.getD k false = xk at *
          generalize hq4 : xs.getD p false = xp at *
          have HQ := Lib.hid hq
          have HQ2 := Lib.hid hq2
          have HQ3 := Lib.hid hq3
          have HQ4 := Lib.hid hq4
          clear hq hq2 hq3 hq4
          have b3 : (0 : Int) ≤ (p : Int) := by omega
          have b4 : (p : Int) < (n : Int) := by omega
          cases up
          · cases bk
            all_goals
              go_wp2_with fail
              go_roundw
              case rel => exact ⟨j + 1, by omega, rfl, Lib.hid (by rw [HT.out]; show OwH w _ _ (o1.set k (o1.getD k false || xs.getD ((p : Int)).toNat false)); rw [Int.toNat_natCast, HQ.out, HQ4.out]; exact HRI.out.put k _)⟩
              case measure => simp [intOf]; omega
          · cases bp
            all_goals
              go_wp2_with fail
              go_roundw
              case rel => exact ⟨j + 1, by omega, rfl, Lib.hid (by rw [HT.out]; show OwH w _ _ (o1.set ((p : Int)).toNat (o1.getD ((p : Int)).toNat false || xs.getD k false)); rw [Int.toNat_natCast, HQ2.out, HQ3.out]; exact HRI.out.put p _)⟩
              case measure => simp [intOf]; omega
        · obtain rfl : j = cm.f0.length := by omega
          go_wp2_with fail
          go_roundw
          case rel => exact ⟨k + 1, by omega, rfl, Lib.hid (by rw [HNX.out]; have := HRI.out; rwa [List.take_length] at this)⟩
          case measure => simp [intOf]; omega
    · obtain rfl : k = n := by omega
      go_wp2_with fail
      go_ret
      have hs := SelV.of_R HR.out.row
      rw [stK_length, HN.out] at hs
      have hp : stK up cs xs k = stepF up cs xs := by rw [← stK_all, HN.out]
      rw [hp] at hs
      exact ⟨_, _, rfl, hs, HR.out.bel⟩
theorem spreadF_length (up : Bool) (cs : List S51) (xs : List Bool) : (spreadF up cs xs).length = xs.length := spAll_length _ _ _ _
theorem spread_sel {cs : List S51} {A : Option Addr} {c : Nat} {xs : List Bool} {v : Value} (up : Bool) {w : World} (hv : VH cs) (hC : Kd.C k51 w A cs.length cs) (hc : cs.length ≤ c) (hx : SelV w cs.length v xs) : Calls Tryd.prog 56 #[.slice A cs.length c, v, .bool up] w (RetSel w cs.length (spreadF up cs xs)) := by
  have hl := hx.len
  obtain ⟨B, d, rfl, h1, hp, h2⟩ := hx
  have h := spread_any cs A c xs B d up w hv hC (by rw [hl]; exact h2) hp.plain hl hc
  rw [hl] at h
  exact h.mono fun e w' h => RetSel.of_R ((spreadF_length _ _ _).trans hl) h
theorem repeat_sel (n : Nat) (hn : n ≤ 60) (b off c : Nat) (w : World) (hx : w.cell? ⟨b, off, none⟩ = some (.bool true)) : Calls Tryd.prog 54 #[.slice (some ⟨b, off, none⟩) 1 c, .int .i64 (n : Int)] w (RetSel w n (List.replicate n true)) :=
  (repeat_any n hn b off c w hx).mono fun e w' h => RetSel.of_R List.length_replicate h

/-- What one node selects: the kinds of the loop. -/
def leafF (k num : Int) (l r : List Bool) (i : Nat) (c : S51) : Bool :=
  if k = 1 then true else if k = 3 then decide ((i : Int) = num) else if k = 4 then decide (c.f1 = num) else if k = 5 then decide (c.f2 < num) else if k = 6 then decide (1 < (c.f0.length : Int))
  else if k = 14 then l.getD i false || r.getD i false else if k = 15 then l.getD i false && r.getD i false else false
def loopF (k num : Int) (cs : List S51) (l r : List Bool) : List Bool := (List.range cs.length).map fun i => leafF k num l r i (cs.getD i z51)
/-- What one node selects. -/
def evalF (k num : Int) (cs : List S51) (l r : List Bool) : List Bool :=
  if k = 7 then withoutF (List.replicate cs.length true) l
  else if k = 16 then withoutF l r
  else if k = 8 ∨ k = 9 then spreadF (decide (k = 8)) cs l
  else if k = 10 ∨ k = 11 then stepF (decide (k = 10)) cs l
  else if k = 12 ∨ k = 13 then withoutF l (stepF (decide (k = 12)) cs (spreadF (decide (k = 12)) cs l))
  else loopF k num cs l r

theorem evalF_length (k num : Int) (cs : List S51) (l r : List Bool) (hl : 7 ≤ k → l.length = cs.length) (hr : 14 ≤ k → r.length = cs.length) : (evalF k num cs l r).length = cs.length := by
  unfold evalF
  split
  · rename_i h; simp [withoutF, hl (by omega)]
  split
  · rename_i h; simp [withoutF, hl (by omega), hr (by omega)]
  split
  · rename_i h; simp [spreadF, spAll_length, hl (by omega)]
  split
  · rename_i h; simp [stepF_length]
  split
  · rename_i h; simp [withoutF, stepF_length, hl (by omega)]
  · simp [loopF]

end Go.Proofs.YtijaoedlhmdpnaaDoor
/- revset.eval walked. -/
namespace Go.Proofs.YtijaoedlhmdpnaaDoor
open Go.RowKit Go.Proofs.YtijaoedlhmdpnaaDoor.PTopQueriesKept Go.Proofs.YtijaoedlhmdpnaaDoorW.PrintWords

set_option maxRecDepth 100000 in
set_option maxHeartbeats 4000000 in
theorem eval_not (num lf rt : Int) (cs : List S51) (A : Option Addr) (c : Nat) (l : List Bool) (vl vr : Value) (w : World) (hv : VH cs) (hl : SelV w cs.length vl l) :
    Calls Tryd.prog 47 #[.slice A cs.length c, .agg #[.int .i64 7, .int .i64 num, .int .i64 lf, .int .i64 rt], vl, vr] w (RetSel w cs.length (withoutF (List.replicate cs.length true) l)) := by
  have HN := Lib.hid hv.1
  have HL := Lib.hid hl
  clear hv hl
  obtain ⟨Al, cl, hvl, -⟩ := HL.out
  subst hvl
  go_enter Tryd.func47, Tryd.ntmps47
  go_wp2_with (first | (go_at_call 54; go_must (refine (repeat_sel cs.length HN.out _ 0 1 _ (by simp)).mono ?_); rintro e w1 ⟨A1, c1, rfl, hs1, hb1⟩; have HS1 := Lib.hid hs1; have HB1 := Lib.hid hb1; clear hs1 hb1) | (go_at_call 55; go_must (refine (without_sel HS1.out (HL.out.bel (((Bel.alloc w _).thenAlloc _).trans HB1.out)) HN.out).mono ?_); rintro e w2 ⟨A2, c2, rfl, hs2, hb2⟩; have HS2 := Lib.hid hs2; have HB2 := Lib.hid hb2; clear hs2 hb2))
  go_ret
  exact ⟨_, _, rfl, HS2.out, (((Bel.alloc w _).thenAlloc _).trans HB1.out).trans HB2.out⟩

set_option maxRecDepth 100000 in
set_option maxHeartbeats 4000000 in
theorem eval_minus (num lf rt : Int) (cs : List S51) (A : Option Addr) (c : Nat) (l r : List Bool) (vl vr : Value) (w : World) (hv : VH cs) (hl : SelV w cs.length vl l) (hr : SelV w cs.length vr r) :
    Calls Tryd.prog 47 #[.slice A cs.length c, .agg #[.int .i64 16, .int .i64 num, .int .i64 lf, .int .i64 rt], vl, vr] w (RetSel w cs.length (withoutF l r)) := by
  have HN := Lib.hid hv.1
  have HL := Lib.hid hl
  have HR := Lib.hid hr
  clear hv hl hr
  obtain ⟨Al, cl, hvl, -⟩ := HL.out
  subst hvl
  obtain ⟨Ar, cr, hvr, -⟩ := HR.out
  subst hvr
  go_enter Tryd.func47, Tryd.ntmps47
  go_wp2_with (first | (go_at_call 55; go_must (refine (without_sel (HL.out.bel (Bel.alloc w _)) (HR.out.bel (Bel.alloc w _)) HN.out).mono ?_); rintro e w2 ⟨A2, c2, rfl, hs2, hb2⟩; have HS2 := Lib.hid hs2; have HB2 := Lib.hid hb2; clear hs2 hb2))
  go_ret
  exact ⟨_, _, rfl, HS2.out, (Bel.alloc w _).trans HB2.out⟩

set_option maxRecDepth 100000 in
set_option maxHeartbeats 4000000 in
theorem eval_spread8 (num lf rt : Int) (cs : List S51) (A : Option Addr) (c : Nat) (l : List Bool) (vl vr : Value) (w : World) (hv : VH cs) (hC : Kd.C k51 w A cs.length cs) (hc : cs.length ≤ c) (hl : SelV w cs.length vl l) :
    Calls Tryd.prog 47 #[.slice A cs.length c, .agg #[.int .i64 8, .int .i64 num, .int .i64 lf, .int .i64 rt], vl, vr] w (RetSel w cs.length (spreadF true cs l)) := by
  have HV := Lib.hid hv
  have HC := Lib.hid hC
  have HCC := Lib.hid hc
  have HL := Lib.hid hl
  clear hv hl hC hc
  obtain ⟨Al, cl, hvl, -⟩ := HL.out
  subst hvl
  go_enter Tryd.func47, Tryd.ntmps47
  go_wp2_with (first | (go_at_call 56; go_must (refine (spread_sel true HV.out (Kd.C_below HC.out (Bel.alloc w _)) HCC.out (HL.out.bel (Bel.alloc w _))).mono ?_); rintro e w2 ⟨A2, c2, rfl, hs2, hb2⟩; have HS2 := Lib.hid hs2; have HB2 := Lib.hid hb2; clear hs2 hb2))
  go_ret
  exact ⟨_, _, rfl, HS2.out, (Bel.alloc w _).trans HB2.out⟩

set_option maxRecDepth 100000 in
set_option maxHeartbeats 4000000 in
theorem eval_spread9 (num lf rt : Int) (cs : List S51) (A : Option Addr) (c : Nat) (l : List Bool) (vl vr : Value) (w : World) (hv : VH cs) (hC : Kd.C k51 w A cs.length cs) (hc : cs.length ≤ c) (hl : SelV w cs.length vl l) :
    Calls Tryd.prog 47 #[.slice A cs.length c, .agg #[.int .i64 9, .int .i64 num, .int .i64 lf, .int .i64 rt], vl, vr] w (RetSel w cs.length (spreadF false cs l)) := by
  have HV := Lib.hid hv
  have HC := Lib.hid hC
  have HCC := Lib.hid hc
  have HL := Lib.hid hl
  clear hv hl hC hc
  obtain ⟨Al, cl, hvl, -⟩ := HL.out
  subst hvl
  go_enter Tryd.func47, Tryd.ntmps47
  go_wp2_with (first | (go_at_call 56; go_must (refine (spread_sel false HV.out (Kd.C_below HC.out (Bel.alloc w _)) HCC.out (HL.out.bel (Bel.alloc w _))).mono ?_); rintro e w2 ⟨A2, c2, rfl, hs2, hb2⟩; have HS2 := Lib.hid hs2; have HB2 := Lib.hid hb2; clear hs2 hb2))
  go_ret
  exact ⟨_, _, rfl, HS2.out, (Bel.alloc w _).trans HB2.out⟩

set_option maxRecDepth 100000 in
set_option maxHeartbeats 4000000 in
theorem eval_step10 (num lf rt : Int) (cs : List S51) (A : Option Addr) (c : Nat) (l : List Bool) (vl vr : Value) (w : World) (hv : VH cs) (hC : Kd.C k51 w A cs.length cs) (hc : cs.length ≤ c) (hl : SelV w cs.length vl l) :
    Calls Tryd.prog 47 #[.slice A cs.length c, .agg #[.int .i64 10, .int .i64 num, .int .i64 lf, .int .i64 rt], vl, vr] w (RetSel w cs.length (stepF true cs l)) := by
  have HV := Lib.hid hv
  have HC := Lib.hid hC
  have HCC := Lib.hid hc
  have HL := Lib.hid hl
  clear hv hl hC hc
  obtain ⟨Al, cl, hvl, -⟩ := HL.out
  subst hvl
  go_enter Tryd.func47, Tryd.ntmps47
  go_wp2_with (first | (go_at_call 57; go_must (refine (step_sel true HV.out (Kd.C_below HC.out (Bel.alloc w _)) HCC.out (HL.out.bel (Bel.alloc w _))).mono ?_); rintro e w2 ⟨A2, c2, rfl, hs2, hb2⟩; have HS2 := Lib.hid hs2; have HB2 := Lib.hid hb2; clear hs2 hb2))
  go_ret
  exact ⟨_, _, rfl, HS2.out, (Bel.alloc w _).trans HB2.out⟩

set_option maxRecDepth 100000 in
set_option maxHeartbeats 4000000 in
theorem eval_step11 (num lf rt : Int) (cs : List S51) (A : Option Addr) (c : Nat) (l : List Bool) (vl vr : Value) (w : World) (hv : VH cs) (hC : Kd.C k51 w A cs.length cs) (hc : cs.length ≤ c) (hl : SelV w cs.length vl l) :
    Calls Tryd.prog 47 #[.slice A cs.length c, .agg #[.int .i64 11, .int .i64 num, .int .i64 lf, .int .i64 rt], vl, vr] w (RetSel w cs.length (stepF false cs l)) := by
  have HV := Lib.hid hv
  have HC := Lib.hid hC
  have HCC := Lib.hid hc
  have HL := Lib.hid hl
  clear hv hl hC hc
  obtain ⟨Al, cl, hvl, -⟩ := HL.out
  subst hvl
  go_enter Tryd.func47, Tryd.ntmps47
  go_wp2_with (first | (go_at_call 57; go_must (refine (step_sel false HV.out (Kd.C_below HC.out (Bel.alloc w _)) HCC.out (HL.out.bel (Bel.alloc w _))).mono ?_); rintro e w2 ⟨A2, c2, rfl, hs2, hb2⟩; have HS2 := Lib.hid hs2; have HB2 := Lib.hid hb2; clear hs2 hb2))
  go_ret
  exact ⟨_, _, rfl, HS2.out, (Bel.alloc w _).trans HB2.out⟩

set_option maxRecDepth 100000 in
set_option maxHeartbeats 4000000 in
theorem eval_end12 (num lf rt : Int) (cs : List S51) (A : Option Addr) (c : Nat) (l : List Bool) (vl vr : Value) (w : World) (hv : VH cs) (hC : Kd.C k51 w A cs.length cs) (hc : cs.length ≤ c) (hl : SelV w cs.length vl l) :
    Calls Tryd.prog 47 #[.slice A cs.length c, .agg #[.int .i64 12, .int .i64 num, .int .i64 lf, .int .i64 rt], vl, vr] w (RetSel w cs.length (withoutF l (stepF true cs (spreadF true cs l)))) := by
  have HV := Lib.hid hv
  have HC := Lib.hid hC
  have HCC := Lib.hid hc
  have HL := Lib.hid hl
  clear hv hl hC hc
  obtain ⟨Al, cl, hvl, -⟩ := HL.out
  subst hvl
  go_enter Tryd.func47, Tryd.ntmps47
  go_wp2_with (first | (go_at_call 56; go_must (refine (spread_sel true HV.out (Kd.C_below HC.out (Bel.alloc w _)) HCC.out (HL.out.bel (Bel.alloc w _))).mono ?_); rintro e w1 ⟨A1, c1, rfl, hs1, hb1⟩; have HS1 := Lib.hid hs1; have HB1 := Lib.hid ((Bel.alloc w _).trans hb1); clear hs1 hb1) | (go_at_call 57; go_must (refine (step_sel true HV.out (Kd.C_below HC.out HB1.out) HCC.out HS1.out).mono ?_); rintro e w2 ⟨A2, c2, rfl, hs2, hb2⟩; have HS2 := Lib.hid hs2; have HB2 := Lib.hid (HB1.out.trans hb2); clear hs2 hb2) | (go_at_call 55; go_must (refine (without_sel (HL.out.bel HB2.out) HS2.out HV.out.1).mono ?_); rintro e w3 ⟨A3, c3, rfl, hs3, hb3⟩; have HS3 := Lib.hid hs3; have HB3 := Lib.hid (HB2.out.trans hb3); clear hs3 hb3))
  go_ret
  exact ⟨_, _, rfl, HS3.out, HB3.out⟩

set_option maxRecDepth 100000 in
set_option maxHeartbeats 4000000 in
theorem eval_end13 (num lf rt : Int) (cs : List S51) (A : Option Addr) (c : Nat) (l : List Bool) (vl vr : Value) (w : World) (hv : VH cs) (hC : Kd.C k51 w A cs.length cs) (hc : cs.length ≤ c) (hl : SelV w cs.length vl l) :
    Calls Tryd.prog 47 #[.slice A cs.length c, .agg #[.int .i64 13, .int .i64 num, .int .i64 lf, .int .i64 rt], vl, vr] w (RetSel w cs.length (withoutF l (stepF false cs (spreadF false cs l)))) := by
  have HV := Lib.hid hv
  have HC := Lib.hid hC
  have HCC := Lib.hid hc
  have HL := Lib.hid hl
  clear hv hl hC hc
  obtain ⟨Al, cl, hvl, -⟩ := HL.out
  subst hvl
  go_enter Tryd.func47, Tryd.ntmps47
  go_wp2_with (first | (go_at_call 56; go_must (refine (spread_sel false HV.out (Kd.C_below HC.out (Bel.alloc w _)) HCC.out (HL.out.bel (Bel.alloc w _))).mono ?_); rintro e w1 ⟨A1, c1, rfl, hs1, hb1⟩; have HS1 := Lib.hid hs1; have HB1 := Lib.hid ((Bel.alloc w _).trans hb1); clear hs1 hb1) | (go_at_call 57; go_must (refine (step_sel false HV.out (Kd.C_below HC.out HB1.out) HCC.out HS1.out).mono ?_); rintro e w2 ⟨A2, c2, rfl, hs2, hb2⟩; have HS2 := Lib.hid hs2; have HB2 := Lib.hid (HB1.out.trans hb2); clear hs2 hb2) | (go_at_call 55; go_must (refine (without_sel (HL.out.bel HB2.out) HS2.out HV.out.1).mono ?_); rintro e w3 ⟨A3, c3, rfl, hs3, hb3⟩; have HS3 := Lib.hid hs3; have HB3 := Lib.hid (HB2.out.trans hb3); clear hs3 hb3))
  go_ret
  exact ⟨_, _, rfl, HS3.out, HB3.out⟩


end Go.Proofs.YtijaoedlhmdpnaaDoor
/- revset.eval walked: the kinds of the loop. -/
namespace Go.Proofs.YtijaoedlhmdpnaaDoor
open Go.RowKit Go.Proofs.YtijaoedlhmdpnaaDoor.PTopQueriesKept Go.Proofs.YtijaoedlhmdpnaaDoorW.PrintWords

/-- The loop under way: the node lies in block b5; the slice v is the call's own and reads out. -/
structure EvH (w wr : World) (b5 : Nat) (cells : Array Value) (v : Value) (out : List Bool) : Prop where
  ge : w.heap.size ≤ b5
  blk : wr.heap[b5]? = some (.cells cells 53 (0, 0))
  row : Kd.R Kd.bool 4 wr w.heap.size (fun _ => True) v out
  bel : Below w.heap.size w wr
theorem EvH.alloc {w wr : World} {b5 : Nat} {cells : Array Value} {v : Value} {out : List Bool} (h : EvH w wr b5 cells v out) (o : Obj) : EvH w (wr.alloc o) b5 cells v out :=
  ⟨h.ge, heap_alloc_old h.blk o, Kd.R_alloc h.row o, h.bel.alloc (by have := h.bel.size; omega) o⟩
theorem EvH.drew {w wr : World} {b5 : Nat} {cells : Array Value} {v : Value} {out : List Bool} (h : EvH w wr b5 cells v out) : EvH w wr.drew b5 cells v out :=
  ⟨h.ge, h.blk, Kd.R_drew h.row, h.bel.drew⟩
theorem EvH.ne {w wr : World} {b5 g n cap : Nat} {cells : Array Value} {out : List Bool} (h : EvH w wr b5 cells (.slice (some ⟨g, 0, none⟩) n cap) out) : g ≠ b5 := by
  rintro rfl
  exact Kd.R_ne h.row h.blk (by decide) rfl
theorem EvH.ge' {w wr : World} {b5 g n cap : Nat} {cells : Array Value} {out : List Bool} (h : EvH w wr b5 cells (.slice (some ⟨g, 0, none⟩) n cap) out) : w.heap.size ≤ g := Kd.R_base h.row g rfl
theorem EvH.put {w wr : World} {b5 g n cap : Nat} {cells : Array Value} {out : List Bool} (h : EvH w wr b5 cells (.slice (some ⟨g, 0, none⟩) n cap) out) (i : Nat) (b : Bool) : EvH w (wr.setCell ⟨g, i, none⟩ (.bool b)) b5 cells (.slice (some ⟨g, 0, none⟩) n cap) (out.set i b) := by
  refine ⟨h.ge, ?_, ?_, ?_⟩
  · exact (heap_setCell_far wr ⟨g, i, none⟩ _ (fun e => h.ne e.symm)).trans h.blk
  · have := Kd.R_putn h.row (i : Int) b
    exact this
  · exact h.bel.setCell (p := ⟨g, i, none⟩) h.ge' _
theorem EvH.cell {w wr : World} {b5 g n cap : Nat} {cells : Array Value} {out : List Bool} (h : EvH w wr b5 cells (.slice (some ⟨g, 0, none⟩) n cap) out) (i : Nat) (hi : i < n) : wr.cell? ⟨g, i, none⟩ = some (.bool (out[i]?.getD false)) ∧ wr.frozen? ⟨g, i, none⟩ = false := by
  have := Kd.R_celln false h.row (i : Int) (by omega) (by omega)
  simpa [rdOf] using this

/-- What has come when k rounds are over. -/
def part (k num : Int) (cs : List S51) (l r : List Bool) (j : Nat) : List Bool := (List.range j).map (fun i => leafF k num l r i (cs.getD i z51)) ++ List.replicate (cs.length - j) false
theorem part_set (k num : Int) (cs : List S51) (l r : List Bool) (j : Nat) (hj : j < cs.length) : (part k num cs l r j).set j (leafF k num l r j (cs.getD j z51)) = part k num cs l r (j + 1) := by
  unfold part
  rw [List.set_append_right (h := by simp), List.range_succ, List.map_append]
  have h : cs.length - j = (cs.length - (j + 1)) + 1 := by omega
  rw [h, List.replicate_succ]
  simp
theorem part_none (k num : Int) (cs : List S51) (l r : List Bool) (j : Nat) (hj : j < cs.length) (h0 : leafF k num l r j (cs.getD j z51) = false) : part k num cs l r j = part k num cs l r (j + 1) := by
  rw [← part_set k num cs l r j hj, h0]
  unfold part
  rw [List.set_append_right (h := by simp)]
  have h : cs.length - j = (cs.length - (j + 1)) + 1 := by omega
  rw [h, List.replicate_succ]
  simp
theorem part_all (k num : Int) (cs : List S51) (l r : List Bool) : part k num cs l r cs.length = loopF k num cs l r := by simp [part, loopF]
theorem part_zero (k num : Int) (cs : List S51) (l r : List Bool) : part k num cs l r 0 = List.replicate cs.length false := by simp [part]

set_option maxRecDepth 100000 in
set_option maxHeartbeats 4000000 in
theorem eval_loop1 (num lf rt : Int) (cs : List S51) (A : Option Addr) (c : Nat) (l r : List Bool) (vl vr : Value) (w : World) (hv : VH cs) (hC : Kd.C k51 w A cs.length cs) (hc : cs.length ≤ c) :
    Calls Tryd.prog 47 #[.slice A cs.length c, .agg #[.int .i64 1, .int .i64 num, .int .i64 lf, .int .i64 rt], vl, vr] w (RetSel w cs.length (loopF 1 num cs l r)) := by
  have hn := hv.1
  have hmk := run_make_row' (P := Tryd.prog) 44 4 (.bool false) 1 Tryd.underlying44 info4 rfl .i64 .i64 cs.length (by omega) (by omega)
  rw [made_rep] at hmk
  obtain ⟨P, cc, hA⟩ := cAt_all hC
  have HA := Lib.hid hA
  have HC := Lib.hid hC
  clear hC hA hv
  go_enter Tryd.func47, Tryd.ntmps47
  go_wp2_with fail
  have HS : Hid (EvH w ((w.alloc (Obj.cells #[.int .i64 1, .int .i64 num, .int .i64 lf, .int .i64 rt] 53 (0, 0))).alloc (Obj.cells (rep cs.length 0).toArray 4 (0, 0))) w.heap.size #[.int .i64 1, .int .i64 num, .int .i64 lf, .int .i64 rt] (.slice (some ⟨w.heap.size + 1, 0, none⟩) cs.length cs.length) (part 1 num cs l r 0)) := by
    refine Lib.hid ⟨Nat.le_refl _, heap_alloc_old (heap_alloc_at _ rfl) _, ?_, (Bel.alloc w _).thenAlloc _⟩
    rw [part_zero]
    have h := made_R w (w.alloc (Obj.cells #[.int .i64 1, .int .i64 num, .int .i64 lf, .int .i64 rt] 53 (0, 0))) cs.length hn (by simp)
    rw [World.size_alloc] at h
    exact h
  clear hmk
  generalize (w.alloc (Obj.cells #[.int .i64 1, .int .i64 num, .int .i64 lf, .int .i64 rt] 53 (0, 0))).alloc (Obj.cells (rep cs.length 0).toArray 4 (0, 0)) = W at *
  obtain ⟨b5, hb5⟩ : ∃ b5, w.heap.size = b5 := ⟨_, rfl⟩
  rw [hb5] at HS ⊢
  have HB5 := Lib.hid hb5
  clear hb5
  generalize b5 + 1 = g at *
  go_loopw [67] (fun i wr => ∃ j : Nat, j ≤ cs.length ∧ i = .int .i64 j ∧ Hid (EvH w wr b5 #[.int .i64 1, .int .i64 num, .int .i64 lf, .int .i64 rt] (.slice (some ⟨g, 0, none⟩) cs.length cs.length) (part 1 num cs l r j))) (fun i _ => cs.length - (intOf i).toNat)
  case atStart => exact ⟨0, Nat.zero_le _, rfl, HS⟩
  case round =>
    obtain ⟨j, hj, rfl, HE⟩ := hrel
    by_cases hlt : j < cs.length
    · obtain ⟨ad, hAd, hx0, hx1, hx2, hx3, hx4, -, -⟩ := HA.out j hlt
      subst hAd
      replace hx0 := (HE.out.bel.cell (World.block_lt_of_cell? w _ hx0)).trans hx0
      replace hx1 := (HE.out.bel.cell (World.block_lt_of_cell? w _ hx1)).trans hx1
      replace hx2 := (HE.out.bel.cell (World.block_lt_of_cell? w _ hx2)).trans hx2
      replace hx3 := (HE.out.bel.cell (World.block_lt_of_cell? w _ hx3)).trans hx3
      replace hx4 := (HE.out.bel.cell (World.block_lt_of_cell? w _ hx4)).trans hx4
      have HP := Lib.hid (part_set 1 num cs l r j hlt)
      generalize cs.getD j z51 = cm at *
      generalize P j = pk at *
      generalize cc j = ck at *
      have hk0 : wr.cell? ⟨b5, 0, none⟩ = some (.int .i64 1) := (blk_cell HE.out.blk 0).trans rfl
      have hk1 : wr.cell? ⟨b5, 1, none⟩ = some (.int .i64 num) := (blk_cell HE.out.blk 1).trans rfl
      obtain ⟨hcj, hfj⟩ := HE.out.cell j hlt
      have hl5 : b5 < wr.heap.size := (Array.getElem?_eq_some_iff.1 HE.out.blk).1
      have hlg : g < wr.heap.size := Kd.R_lt HE.out.row g rfl
      go_wp2_with fail
      go_roundw
      case rel =>
        refine ⟨j + 1, by omega, rfl, Lib.hid ?_⟩
        rw [← HP.out]
        simp only [leafF]
        exact (HE.out.put j _).alloc _
      case measure => simp [intOf]; omega
    · obtain rfl : j = cs.length := by omega
      go_wp2_with fail
      go_ret
      rw [part_all] at HE
      have hs := SelV.of_R HE.out.row
      rw [show (loopF 1 num cs l r).length = cs.length by simp [loopF]] at hs
      exact ⟨_, _, rfl, hs, HE.out.bel⟩

set_option maxRecDepth 100000 in
set_option maxHeartbeats 4000000 in
theorem eval_loop2 (num lf rt : Int) (cs : List S51) (A : Option Addr) (c : Nat) (l r : List Bool) (vl vr : Value) (w : World) (hv : VH cs) (hC : Kd.C k51 w A cs.length cs) (hc : cs.length ≤ c) :
    Calls Tryd.prog 47 #[.slice A cs.length c, .agg #[.int .i64 2, .int .i64 num, .int .i64 lf, .int .i64 rt], vl, vr] w (RetSel w cs.length (loopF 2 num cs l r)) := by
  have hn := hv.1
  have hmk := run_make_row' (P := Tryd.prog) 44 4 (.bool false) 1 Tryd.underlying44 info4 rfl .i64 .i64 cs.length (by omega) (by omega)
  rw [made_rep] at hmk
  obtain ⟨P, cc, hA⟩ := cAt_all hC
  have HA := Lib.hid hA
  have HC := Lib.hid hC
  clear hC hA hv
  go_enter Tryd.func47, Tryd.ntmps47
  go_wp2_with fail
  have HS : Hid (EvH w ((w.alloc (Obj.cells #[.int .i64 2, .int .i64 num, .int .i64 lf, .int .i64 rt] 53 (0, 0))).alloc (Obj.cells (rep cs.length 0).toArray 4 (0, 0))) w.heap.size #[.int .i64 2, .int .i64 num, .int .i64 lf, .int .i64 rt] (.slice (some ⟨w.heap.size + 1, 0, none⟩) cs.length cs.length) (part 2 num cs l r 0)) := by
    refine Lib.hid ⟨Nat.le_refl _, heap_alloc_old (heap_alloc_at _ rfl) _, ?_, (Bel.alloc w _).thenAlloc _⟩
    rw [part_zero]
    have h := made_R w (w.alloc (Obj.cells #[.int .i64 2, .int .i64 num, .int .i64 lf, .int .i64 rt] 53 (0, 0))) cs.length hn (by simp)
    rw [World.size_alloc] at h
    exact h
  clear hmk
  generalize (w.alloc (Obj.cells #[.int .i64 2, .int .i64 num, .int .i64 lf, .int .i64 rt] 53 (0, 0))).alloc (Obj.cells (rep cs.length 0).toArray 4 (0, 0)) = W at *
  obtain ⟨b5, hb5⟩ : ∃ b5, w.heap.size = b5 := ⟨_, rfl⟩
  rw [hb5] at HS ⊢
  have HB5 := Lib.hid hb5
  clear hb5
  generalize b5 + 1 = g at *
  go_loopw [67] (fun i wr => ∃ j : Nat, j ≤ cs.length ∧ i = .int .i64 j ∧ Hid (EvH w wr b5 #[.int .i64 2, .int .i64 num, .int .i64 lf, .int .i64 rt] (.slice (some ⟨g, 0, none⟩) cs.length cs.length) (part 2 num cs l r j))) (fun i _ => cs.length - (intOf i).toNat)
  case atStart => exact ⟨0, Nat.zero_le _, rfl, HS⟩
  case round =>
    obtain ⟨j, hj, rfl, HE⟩ := hrel
    by_cases hlt : j < cs.length
    · obtain ⟨ad, hAd, hx0, hx1, hx2, hx3, hx4, -, -⟩ := HA.out j hlt
      subst hAd
      replace hx0 := (HE.out.bel.cell (World.block_lt_of_cell? w _ hx0)).trans hx0
      replace hx1 := (HE.out.bel.cell (World.block_lt_of_cell? w _ hx1)).trans hx1
      replace hx2 := (HE.out.bel.cell (World.block_lt_of_cell? w _ hx2)).trans hx2
      replace hx3 := (HE.out.bel.cell (World.block_lt_of_cell? w _ hx3)).trans hx3
      replace hx4 := (HE.out.bel.cell (World.block_lt_of_cell? w _ hx4)).trans hx4
      have HP := Lib.hid (part_none 2 num cs l r j hlt (by simp [leafF]))
      generalize cs.getD j z51 = cm at *
      generalize P j = pk at *
      generalize cc j = ck at *
      have hk0 : wr.cell? ⟨b5, 0, none⟩ = some (.int .i64 2) := (blk_cell HE.out.blk 0).trans rfl
      have hk1 : wr.cell? ⟨b5, 1, none⟩ = some (.int .i64 num) := (blk_cell HE.out.blk 1).trans rfl
      obtain ⟨hcj, hfj⟩ := HE.out.cell j hlt
      have hl5 : b5 < wr.heap.size := (Array.getElem?_eq_some_iff.1 HE.out.blk).1
      have hlg : g < wr.heap.size := Kd.R_lt HE.out.row g rfl
      go_wp2_with fail
      go_roundw
      case rel =>
        refine ⟨j + 1, by omega, rfl, Lib.hid ?_⟩
        rw [← HP.out]
        exact HE.out.alloc _
      case measure => simp [intOf]; omega
    · obtain rfl : j = cs.length := by omega
      go_wp2_with fail
      go_ret
      rw [part_all] at HE
      have hs := SelV.of_R HE.out.row
      rw [show (loopF 2 num cs l r).length = cs.length by simp [loopF]] at hs
      exact ⟨_, _, rfl, hs, HE.out.bel⟩

set_option maxRecDepth 100000 in
set_option maxHeartbeats 4000000 in
theorem eval_loop3 (num lf rt : Int) (cs : List S51) (A : Option Addr) (c : Nat) (l r : List Bool) (vl vr : Value) (w : World) (hv : VH cs) (hC : Kd.C k51 w A cs.length cs) (hc : cs.length ≤ c) :
    Calls Tryd.prog 47 #[.slice A cs.length c, .agg #[.int .i64 3, .int .i64 num, .int .i64 lf, .int .i64 rt], vl, vr] w (RetSel w cs.length (loopF 3 num cs l r)) := by
  have hn := hv.1
  have hmk := run_make_row' (P := Tryd.prog) 44 4 (.bool false) 1 Tryd.underlying44 info4 rfl .i64 .i64 cs.length (by omega) (by omega)
  rw [made_rep] at hmk
  obtain ⟨P, cc, hA⟩ := cAt_all hC
  have HA := Lib.hid hA
  have HC := Lib.hid hC
  clear hC hA hv
  go_enter Tryd.func47, Tryd.ntmps47
  go_wp2_with fail
  have HS : Hid (EvH w ((w.alloc (Obj.cells #[.int .i64 3, .int .i64 num, .int .i64 lf, .int .i64 rt] 53 (0, 0))).alloc (Obj.cells (rep cs.length 0).toArray 4 (0, 0))) w.heap.size #[.int .i64 3, .int .i64 num, .int .i64 lf, .int .i64 rt] (.slice (some ⟨w.heap.size + 1, 0, none⟩) cs.length cs.length) (part 3 num cs l r 0)) := by
    refine Lib.hid ⟨Nat.le_refl _, heap_alloc_old (heap_alloc_at _ rfl) _, ?_, (Bel.alloc w _).thenAlloc _⟩
    rw [part_zero]
    have h := made_R w (w.alloc (Obj.cells #[.int .i64 3, .int .i64 num, .int .i64 lf, .int .i64 rt] 53 (0, 0))) cs.length hn (by simp)
    rw [World.size_alloc] at h
    exact h
  clear hmk
  generalize (w.alloc (Obj.cells #[.int .i64 3, .int .i64 num, .int .i64 lf, .int .i64 rt] 53 (0, 0))).alloc (Obj.cells (rep cs.length 0).toArray 4 (0, 0)) = W at *
  obtain ⟨b5, hb5⟩ : ∃ b5, w.heap.size = b5 := ⟨_, rfl⟩
  rw [hb5] at HS ⊢
  have HB5 := Lib.hid hb5
  clear hb5
  generalize b5 + 1 = g at *
  go_loopw [67] (fun i wr => ∃ j : Nat, j ≤ cs.length ∧ i = .int .i64 j ∧ Hid (EvH w wr b5 #[.int .i64 3, .int .i64 num, .int .i64 lf, .int .i64 rt] (.slice (some ⟨g, 0, none⟩) cs.length cs.length) (part 3 num cs l r j))) (fun i _ => cs.length - (intOf i).toNat)
  case atStart => exact ⟨0, Nat.zero_le _, rfl, HS⟩
  case round =>
    obtain ⟨j, hj, rfl, HE⟩ := hrel
    by_cases hlt : j < cs.length
    · obtain ⟨ad, hAd, hx0, hx1, hx2, hx3, hx4, -, -⟩ := HA.out j hlt
      subst hAd
      replace hx0 := (HE.out.bel.cell (World.block_lt_of_cell? w _ hx0)).trans hx0
      replace hx1 := (HE.out.bel.cell (World.block_lt_of_cell? w _ hx1)).trans hx1
      replace hx2 := (HE.out.bel.cell (World.block_lt_of_cell? w _ hx2)).trans hx2
      replace hx3 := (HE.out.bel.cell (World.block_lt_of_cell? w _ hx3)).trans hx3
      replace hx4 := (HE.out.bel.cell (World.block_lt_of_cell? w _ hx4)).trans hx4
      have HP := Lib.hid (part_set 3 num cs l r j hlt)
      generalize cs.getD j z51 = cm at *
      generalize P j = pk at *
      generalize cc j = ck at *
      have hk0 : wr.cell? ⟨b5, 0, none⟩ = some (.int .i64 3) := (blk_cell HE.out.blk 0).trans rfl
      have hk1 : wr.cell? ⟨b5, 1, none⟩ = some (.int .i64 num) := (blk_cell HE.out.blk 1).trans rfl
      obtain ⟨hcj, hfj⟩ := HE.out.cell j hlt
      have hl5 : b5 < wr.heap.size := (Array.getElem?_eq_some_iff.1 HE.out.blk).1
      have hlg : g < wr.heap.size := Kd.R_lt HE.out.row g rfl
      go_wp2_with fail
      go_roundw
      case rel =>
        refine ⟨j + 1, by omega, rfl, Lib.hid ?_⟩
        rw [← HP.out]
        simp only [leafF]
        exact (HE.out.put j _).alloc _
      case measure => simp [intOf]; omega
    · obtain rfl : j = cs.length := by omega
      go_wp2_with fail
      go_ret
      rw [part_all] at HE
      have hs := SelV.of_R HE.out.row
      rw [show (loopF 3 num cs l r).length = cs.length by simp [loopF]] at hs
      exact ⟨_, _, rfl, hs, HE.out.bel⟩

set_option maxRecDepth 100000 in
set_option maxHeartbeats 4000000 in
theorem eval_loop4 (num lf rt : Int) (cs : List S51) (A : Option Addr) (c : Nat) (l r : List Bool) (vl vr : Value) (w : World) (hv : VH cs) (hC : Kd.C k51 w A cs.length cs) (hc : cs.length ≤ c) :
    Calls Tryd.prog 47 #[.slice A cs.length c, .agg #[.int .i64 4, .int .i64 num, .int .i64 lf, .int .i64 rt], vl, vr] w (RetSel w cs.length (loopF 4 num cs l r)) := by
  have hn := hv.1
  have hmk := run_make_row' (P := Tryd.prog) 44 4 (.bool false) 1 Tryd.underlying44 info4 rfl .i64 .i64 cs.length (by omega) (by omega)
  rw [made_rep] at hmk
  obtain ⟨P, cc, hA⟩ := cAt_all hC
  have HA := Lib.hid hA
  have HC := Lib.hid hC
  clear hC hA hv
  go_enter Tryd.func47, Tryd.ntmps47
  go_wp2_with fail
  have HS : Hid (EvH w ((w.alloc (Obj.cells #[.int .i64 4, .int .i64 num, .int .i64 lf, .int .i64 rt] 53 (0, 0))).alloc (Obj.cells (rep cs.length 0).toArray 4 (0, 0))) w.heap.size #[.int .i64 4, .int .i64 num, .int .i64 lf, .int .i64 rt] (.slice (some ⟨w.heap.size + 1, 0, none⟩) cs.length cs.length) (part 4 num cs l r 0)) := by
    refine Lib.hid ⟨Nat.le_refl _, heap_alloc_old (heap_alloc_at _ rfl) _, ?_, (Bel.alloc w _).thenAlloc _⟩
    rw [part_zero]
    have h := made_R w (w.alloc (Obj.cells #[.int .i64 4, .int .i64 num, .int .i64 lf, .int .i64 rt] 53 (0, 0))) cs.length hn (by simp)
    rw [World.size_alloc] at h
    exact h
  clear hmk
  generalize (w.alloc (Obj.cells #[.int .i64 4, .int .i64 num, .int .i64 lf, .int .i64 rt] 53 (0, 0))).alloc (Obj.cells (rep cs.length 0).toArray 4 (0, 0)) = W at *
  obtain ⟨b5, hb5⟩ : ∃ b5, w.heap.size = b5 := ⟨_, rfl⟩
  rw [hb5] at HS ⊢
  have HB5 := Lib.hid hb5
  clear hb5
  generalize b5 + 1 = g at *
  go_loopw [67] (fun i wr => ∃ j : Nat, j ≤ cs.length ∧ i = .int .i64 j ∧ Hid (EvH w wr b5 #[.int .i64 4, .int .i64 num, .int .i64 lf, .int .i64 rt] (.slice (some ⟨g, 0, none⟩) cs.length cs.length) (part 4 num cs l r j))) (fun i _ => cs.length - (intOf i).toNat)
  case atStart => exact ⟨0, Nat.zero_le _, rfl, HS⟩
  case round =>
    obtain ⟨j, hj, rfl, HE⟩ := hrel
    by_cases hlt : j < cs.length
    · obtain ⟨ad, hAd, hx0, hx1, hx2, hx3, hx4, -, -⟩ := HA.out j hlt
      subst hAd
      replace hx0 := (HE.out.bel.cell (World.block_lt_of_cell? w _ hx0)).trans hx0
      replace hx1 := (HE.out.bel.cell (World.block_lt_of_cell? w _ hx1)).trans hx1
      replace hx2 := (HE.out.bel.cell (World.block_lt_of_cell? w _ hx2)).trans hx2
      replace hx3 := (HE.out.bel.cell (World.block_lt_of_cell? w _ hx3)).trans hx3
      replace hx4 := (HE.out.bel.cell (World.block_lt_of_cell? w _ hx4)).trans hx4
      have HP := Lib.hid (part_set 4 num cs l r j hlt)
      generalize cs.getD j z51 = cm at *
      generalize P j = pk at *
      generalize cc j = ck at *
      have hk0 : wr.cell? ⟨b5, 0, none⟩ = some (.int .i64 4) := (blk_cell HE.out.blk 0).trans rfl
      have hk1 : wr.cell? ⟨b5, 1, none⟩ = some (.int .i64 num) := (blk_cell HE.out.blk 1).trans rfl
      obtain ⟨hcj, hfj⟩ := HE.out.cell j hlt
      have hl5 : b5 < wr.heap.size := (Array.getElem?_eq_some_iff.1 HE.out.blk).1
      have hlg : g < wr.heap.size := Kd.R_lt HE.out.row g rfl
      go_wp2_with fail
      go_roundw
      case rel =>
        refine ⟨j + 1, by omega, rfl, Lib.hid ?_⟩
        rw [← HP.out]
        simp only [leafF]
        exact (HE.out.put j _).alloc _
      case measure => simp [intOf]; omega
    · obtain rfl : j = cs.length := by omega
      go_wp2_with fail
      go_ret
      rw [part_all] at HE
      have hs := SelV.of_R HE.out.row
      rw [show (loopF 4 num cs l r).length = cs.length by simp [loopF]] at hs
      exact ⟨_, _, rfl, hs, HE.out.bel⟩

set_option maxRecDepth 100000 in
set_option maxHeartbeats 4000000 in
theorem eval_loop5 (num lf rt : Int) (cs : List S51) (A : Option Addr) (c : Nat) (l r : List Bool) (vl vr : Value) (w : World) (hv : VH cs) (hC : Kd.C k51 w A cs.length cs) (hc : cs.length ≤ c) :
    Calls Tryd.prog 47 #[.slice A cs.length c, .agg #[.int .i64 5, .int .i64 num, .int .i64 lf, .int .i64 rt], vl, vr] w (RetSel w cs.length (loopF 5 num cs l r)) := by
  have hn := hv.1
  have hmk := run_make_row' (P := Tryd.prog) 44 4 (.bool false) 1 Tryd.underlying44 info4 rfl .i64 .i64 cs.length (by omega) (by omega)
  rw [made_rep] at hmk
  obtain ⟨P, cc, hA⟩ := cAt_all hC
  have HA := Lib.hid hA
  have HC := Lib.hid hC
  clear hC hA hv
  go_enter Tryd.func47, Tryd.ntmps47
  go_wp2_with fail
  have HS : Hid (EvH w ((w.alloc (Obj.cells #[.int .i64 5, .int .i64 num, .int .i64 lf, .int .i64 rt] 53 (0, 0))).alloc (Obj.cells (rep cs.length 0).toArray 4 (0, 0))) w.heap.size #[.int .i64 5, .int .i64 num, .int .i64 lf, .int .i64 rt] (.slice (some ⟨w.heap.size + 1, 0, none⟩) cs.length cs.length) (part 5 num cs l r 0)) := by
    refine Lib.hid ⟨Nat.le_refl _, heap_alloc_old (heap_alloc_at _ rfl) _, ?_, (Bel.alloc w _).thenAlloc _⟩
    rw [part_zero]
    have h := made_R w (w.alloc (Obj.cells #[.int .i64 5, .int .i64 num, .int .i64 lf, .int .i64 rt] 53 (0, 0))) cs.length hn (by simp)
    rw [World.size_alloc] at h
    exact h
  clear hmk
  generalize (w.alloc (Obj.cells #[.int .i64 5, .int .i64 num, .int .i64 lf, .int .i64 rt] 53 (0, 0))).alloc (Obj.cells (rep cs.length 0).toArray 4 (0, 0)) = W at *
  obtain ⟨b5, hb5⟩ : ∃ b5, w.heap.size = b5 := ⟨_, rfl⟩
  rw [hb5] at HS ⊢
  have HB5 := Lib.hid hb5
  clear hb5
  generalize b5 + 1 = g at *
  go_loopw [67] (fun i wr => ∃ j : Nat, j ≤ cs.length ∧ i = .int .i64 j ∧ Hid (EvH w wr b5 #[.int .i64 5, .int .i64 num, .int .i64 lf, .int .i64 rt] (.slice (some ⟨g, 0, none⟩) cs.length cs.length) (part 5 num cs l r j))) (fun i _ => cs.length - (intOf i).toNat)
  case atStart => exact ⟨0, Nat.zero_le _, rfl, HS⟩
  case round =>
    obtain ⟨j, hj, rfl, HE⟩ := hrel
    by_cases hlt : j < cs.length
    · obtain ⟨ad, hAd, hx0, hx1, hx2, hx3, hx4, -, -⟩ := HA.out j hlt
      subst hAd
      replace hx0 := (HE.out.bel.cell (World.block_lt_of_cell? w _ hx0)).trans hx0
      replace hx1 := (HE.out.bel.cell (World.block_lt_of_cell? w _ hx1)).trans hx1
      replace hx2 := (HE.out.bel.cell (World.block_lt_of_cell? w _ hx2)).trans hx2
      replace hx3 := (HE.out.bel.cell (World.block_lt_of_cell? w _ hx3)).trans hx3
      replace hx4 := (HE.out.bel.cell (World.block_lt_of_cell? w _ hx4)).trans hx4
      have HP := Lib.hid (part_set 5 num cs l r j hlt)
      generalize cs.getD j z51 = cm at *
      generalize P j = pk at *
      generalize cc j = ck at *
      have hk0 : wr.cell? ⟨b5, 0, none⟩ = some (.int .i64 5) := (blk_cell HE.out.blk 0).trans rfl
      have hk1 : wr.cell? ⟨b5, 1, none⟩ = some (.int .i64 num) := (blk_cell HE.out.blk 1).trans rfl
      obtain ⟨hcj, hfj⟩ := HE.out.cell j hlt
      have hl5 : b5 < wr.heap.size := (Array.getElem?_eq_some_iff.1 HE.out.blk).1
      have hlg : g < wr.heap.size := Kd.R_lt HE.out.row g rfl
      go_wp2_with fail
      go_roundw
      case rel =>
        refine ⟨j + 1, by omega, rfl, Lib.hid ?_⟩
        rw [← HP.out]
        simp only [leafF]
        exact (HE.out.put j _).alloc _
      case measure => simp [intOf]; omega
    · obtain rfl : j = cs.length := by omega
      go_wp2_with fail
      go_ret
      rw [part_all] at HE
      have hs := SelV.of_R HE.out.row
      rw [show (loopF 5 num cs l r).length = cs.length by simp [loopF]] at hs
      exact ⟨_, _, rfl, hs, HE.out.bel⟩

set_option maxRecDepth 100000 in
set_option maxHeartbeats 4000000 in
theorem eval_loop6 (num lf rt : Int) (cs : List S51) (A : Option Addr) (c : Nat) (l r : List Bool) (vl vr : Value) (w : World) (hv : VH cs) (hC : Kd.C k51 w A cs.length cs) (hc : cs.length ≤ c) :
    Calls Tryd.prog 47 #[.slice A cs.length c, .agg #[.int .i64 6, .int .i64 num, .int .i64 lf, .int .i64 rt], vl, vr] w (RetSel w cs.length (loopF 6 num cs l r)) := by
  have hn := hv.1
  have hmk := run_make_row' (P := Tryd.prog) 44 4 (.bool false) 1 Tryd.underlying44 info4 rfl .i64 .i64 cs.length (by omega) (by omega)
  rw [made_rep] at hmk
  obtain ⟨P, cc, hA⟩ := cAt_all hC
  have HA := Lib.hid hA
  have HC := Lib.hid hC
  clear hC hA hv
  go_enter Tryd.func47, Tryd.ntmps47
  go_wp2_with fail
  have HS : Hid (EvH w ((w.alloc (Obj.cells #[.int .i64 6, .int .i64 num, .int .i64 lf, .int .i64 rt] 53 (0, 0))).alloc (Obj.cells (rep cs.length 0).toArray 4 (0, 0))) w.heap.size #[.int .i64 6, .int .i64 num, .int .i64 lf, .int .i64 rt] (.slice (some ⟨w.heap.size + 1, 0, none⟩) cs.length cs.length) (part 6 num cs l r 0)) := by
    refine Lib.hid ⟨Nat.le_refl _, heap_alloc_old (heap_alloc_at _ rfl) _, ?_, (Bel.alloc w _).thenAlloc _⟩
    rw [part_zero]
    have h := made_R w (w.alloc (Obj.cells #[.int .i64 6, .int .i64 num, .int .i64 lf, .int .i64 rt] 53 (0, 0))) cs.length hn (by simp)
    rw [World.size_alloc] at h
    exact h
  clear hmk
  generalize (w.alloc (Obj.cells #[.int .i64 6, .int .i64 num, .int .i64 lf, .int .i64 rt] 53 (0, 0))).alloc (Obj.cells (rep cs.length 0).toArray 4 (0, 0)) = W at *
  obtain ⟨b5, hb5⟩ : ∃ b5, w.heap.size = b5 := ⟨_, rfl⟩
  rw [hb5] at HS ⊢
  have HB5 := Lib.hid hb5
  clear hb5
  generalize b5 + 1 = g at *
  go_loopw [67] (fun i wr => ∃ j : Nat, j ≤ cs.length ∧ i = .int .i64 j ∧ Hid (EvH w wr b5 #[.int .i64 6, .int .i64 num, .int .i64 lf, .int .i64 rt] (.slice (some ⟨g, 0, none⟩) cs.length cs.length) (part 6 num cs l r j))) (fun i _ => cs.length - (intOf i).toNat)
  case atStart => exact ⟨0, Nat.zero_le _, rfl, HS⟩
  case round =>
    obtain ⟨j, hj, rfl, HE⟩ := hrel
    by_cases hlt : j < cs.length
    · obtain ⟨ad, hAd, hx0, hx1, hx2, hx3, hx4, -, -⟩ := HA.out j hlt
      subst hAd
      replace hx0 := (HE.out.bel.cell (World.block_lt_of_cell? w _ hx0)).trans hx0
      replace hx1 := (HE.out.bel.cell (World.block_lt_of_cell? w _ hx1)).trans hx1
      replace hx2 := (HE.out.bel.cell (World.block_lt_of_cell? w _ hx2)).trans hx2
      replace hx3 := (HE.out.bel.cell (World.block_lt_of_cell? w _ hx3)).trans hx3
      replace hx4 := (HE.out.bel.cell (World.block_lt_of_cell? w _ hx4)).trans hx4
      have HP := Lib.hid (part_set 6 num cs l r j hlt)
      generalize cs.getD j z51 = cm at *
      generalize P j = pk at *
      generalize cc j = ck at *
      have hk0 : wr.cell? ⟨b5, 0, none⟩ = some (.int .i64 6) := (blk_cell HE.out.blk 0).trans rfl
      have hk1 : wr.cell? ⟨b5, 1, none⟩ = some (.int .i64 num) := (blk_cell HE.out.blk 1).trans rfl
      obtain ⟨hcj, hfj⟩ := HE.out.cell j hlt
      have hl5 : b5 < wr.heap.size := (Array.getElem?_eq_some_iff.1 HE.out.blk).1
      have hlg : g < wr.heap.size := Kd.R_lt HE.out.row g rfl
      go_wp2_with fail
      go_roundw
      case rel =>
        refine ⟨j + 1, by omega, rfl, Lib.hid ?_⟩
        rw [← HP.out]
        simp only [leafF]
        exact (HE.out.put j _).alloc _
      case measure => simp [intOf]; omega
    · obtain rfl : j = cs.length := by omega
      go_wp2_with fail
      go_ret
      rw [part_all] at HE
      have hs := SelV.of_R HE.out.row
      rw [show (loopF 6 num cs l r).length = cs.length by simp [loopF]] at hs
      exact ⟨_, _, rfl, hs, HE.out.bel⟩

set_option maxRecDepth 100000 in
set_option maxHeartbeats 4000000 in
theorem eval_loop14 (num lf rt : Int) (cs : List S51) (A : Option Addr) (c : Nat) (l r : List Bool) (vl vr : Value) (w : World) (hv : VH cs) (hC : Kd.C k51 w A cs.length cs) (hc : cs.length ≤ c) (hl : SelV w cs.length vl l) (hr : SelV w cs.length vr r) :
    Calls Tryd.prog 47 #[.slice A cs.length c, .agg #[.int .i64 14, .int .i64 num, .int .i64 lf, .int .i64 rt], vl, vr] w (RetSel w cs.length (loopF 14 num cs l r)) := by
  have hn := hv.1
  have hmk := run_make_row' (P := Tryd.prog) 44 4 (.bool false) 1 Tryd.underlying44 info4 rfl .i64 .i64 cs.length (by omega) (by omega)
  rw [made_rep] at hmk
  obtain ⟨P, cc, hA⟩ := cAt_all hC
  have HA := Lib.hid hA
  have HC := Lib.hid hC
  clear hC hA hv
  have HL := Lib.hid hl
  have HR := Lib.hid hr
  clear hl hr
  obtain ⟨Al, cl, hvl, -⟩ := HL.out
  subst hvl
  obtain ⟨Ar, cr, hvr, -⟩ := HR.out
  subst hvr
  go_enter Tryd.func47, Tryd.ntmps47
  go_wp2_with fail
  have HS : Hid (EvH w ((w.alloc (Obj.cells #[.int .i64 14, .int .i64 num, .int .i64 lf, .int .i64 rt] 53 (0, 0))).alloc (Obj.cells (rep cs.length 0).toArray 4 (0, 0))) w.heap.size #[.int .i64 14, .int .i64 num, .int .i64 lf, .int .i64 rt] (.slice (some ⟨w.heap.size + 1, 0, none⟩) cs.length cs.length) (part 14 num cs l r 0)) := by
    refine Lib.hid ⟨Nat.le_refl _, heap_alloc_old (heap_alloc_at _ rfl) _, ?_, (Bel.alloc w _).thenAlloc _⟩
    rw [part_zero]
    have h := made_R w (w.alloc (Obj.cells #[.int .i64 14, .int .i64 num, .int .i64 lf, .int .i64 rt] 53 (0, 0))) cs.length hn (by simp)
    rw [World.size_alloc] at h
    exact h
  clear hmk
  generalize (w.alloc (Obj.cells #[.int .i64 14, .int .i64 num, .int .i64 lf, .int .i64 rt] 53 (0, 0))).alloc (Obj.cells (rep cs.length 0).toArray 4 (0, 0)) = W at *
  obtain ⟨b5, hb5⟩ : ∃ b5, w.heap.size = b5 := ⟨_, rfl⟩
  rw [hb5] at HS ⊢
  have HB5 := Lib.hid hb5
  clear hb5
  generalize b5 + 1 = g at *
  go_loopw [67] (fun i wr => ∃ j : Nat, j ≤ cs.length ∧ i = .int .i64 j ∧ Hid (EvH w wr b5 #[.int .i64 14, .int .i64 num, .int .i64 lf, .int .i64 rt] (.slice (some ⟨g, 0, none⟩) cs.length cs.length) (part 14 num cs l r j))) (fun i _ => cs.length - (intOf i).toNat)
  case atStart => exact ⟨0, Nat.zero_le _, rfl, HS⟩
  case round =>
    obtain ⟨j, hj, rfl, HE⟩ := hrel
    by_cases hlt : j < cs.length
    · obtain ⟨ad, hAd, hx0, hx1, hx2, hx3, hx4, -, -⟩ := HA.out j hlt
      subst hAd
      replace hx0 := (HE.out.bel.cell (World.block_lt_of_cell? w _ hx0)).trans hx0
      replace hx1 := (HE.out.bel.cell (World.block_lt_of_cell? w _ hx1)).trans hx1
      replace hx2 := (HE.out.bel.cell (World.block_lt_of_cell? w _ hx2)).trans hx2
      replace hx3 := (HE.out.bel.cell (World.block_lt_of_cell? w _ hx3)).trans hx3
      replace hx4 := (HE.out.bel.cell (World.block_lt_of_cell? w _ hx4)).trans hx4
      have HP := Lib.hid (part_set 14 num cs l r j hlt)
      generalize cs.getD j z51 = cm at *
      generalize P j = pk at *
      generalize cc j = ck at *
      have hk0 : wr.cell? ⟨b5, 0, none⟩ = some (.int .i64 14) := (blk_cell HE.out.blk 0).trans rfl
      have hk1 : wr.cell? ⟨b5, 1, none⟩ = some (.int .i64 num) := (blk_cell HE.out.blk 1).trans rfl
      obtain ⟨hcj, hfj⟩ := HE.out.cell j hlt
      have hl5 : b5 < wr.heap.size := (Array.getElem?_eq_some_iff.1 HE.out.blk).1
      have hlg : g < wr.heap.size := Kd.R_lt HE.out.row g rfl
      obtain ⟨Al', cl', e1, h1, -, hCl⟩ := HL.out
      injection e1 with e1 _ e3
      subst e1 e3
      obtain ⟨Ar', cr', e1, h3, -, hCr⟩ := HR.out
      injection e1 with e1 _ e3
      subst e1 e3
      obtain ⟨adl, eL, hxl⟩ := Kd.at_bool (Kd.C_below hCl HE.out.bel) (j : Int) (by omega) (by omega)
      obtain ⟨adr, eR, hxr⟩ := Kd.at_bool (Kd.C_below hCr HE.out.bel) (j : Int) (by omega) (by omega)
      subst eL eR
      rw [rdOf, Int.toNat_natCast, List.getD_eq_getElem?_getD] at hxl hxr
      clear hCl hCr
      generalize hbl : l[j]?.getD false = bl at *
      generalize hbr : r[j]?.getD false = br at *
      have hxl2 := (Bel.alloc wr (Obj.cells #[.slice pk cm.f0.length ck, .int .i64 cm.f1, .int .i64 cm.f2, .int .i64 cm.f3, .string cm.f4] 51 (0, 0))).cell hxl
      have hxr2 := (Bel.alloc wr (Obj.cells #[.slice pk cm.f0.length ck, .int .i64 cm.f1, .int .i64 cm.f2, .int .i64 cm.f3, .string cm.f4] 51 (0, 0))).cell hxr
      have HBL := Lib.hid hbl
      have HBR := Lib.hid hbr
      clear hbl hbr
      have b1 : (0 : Int) ≤ (j : Int) := by omega
      have b2 : (j : Int) < (cs.length : Int) := by omega
      cases bl with
      | true =>
        go_wp2_with fail
        go_roundw
        case rel =>
          refine ⟨j + 1, by omega, rfl, Lib.hid ?_⟩
          rw [← HP.out]
          simp only [leafF, List.getD_eq_getElem?_getD, HBL.out, HBR.out]
          exact (HE.out.put j _).alloc _
        case measure => simp [intOf]; omega
      | false =>
        go_wp2_with fail
        go_roundw
        case rel =>
          refine ⟨j + 1, by omega, rfl, Lib.hid ?_⟩
          rw [← HP.out]
          simp only [leafF, List.getD_eq_getElem?_getD, HBL.out, HBR.out]
          exact (HE.out.put j _).alloc _
        case measure => simp [intOf]; omega
    · obtain rfl : j = cs.length := by omega
      go_wp2_with fail
      go_ret
      rw [part_all] at HE
      have hs := SelV.of_R HE.out.row
      rw [show (loopF 14 num cs l r).length = cs.length by simp [loopF]] at hs
      exact ⟨_, _, rfl, hs, HE.out.bel⟩

set_option maxRecDepth 100000 in
set_option maxHeartbeats 4000000 in
theorem eval_loop15 (num lf rt : Int) (cs : List S51) (A : Option Addr) (c : Nat) (l r : List Bool) (vl vr : Value) (w : World) (hv : VH cs) (hC : Kd.C k51 w A cs.length cs) (hc : cs.length ≤ c) (hl : SelV w cs.length vl l) (hr : SelV w cs.length vr r) :
    Calls Tryd.prog 47 #[.slice A cs.length c, .agg #[.int .i64 15, .int .i64 num, .int .i64 lf, .int .i64 rt], vl, vr] w (RetSel w cs.length (loopF 15 num cs l r)) := by
  have hn := hv.1
  have hmk := run_make_row' (P := Tryd.prog) 44 4 (.bool false) 1 Tryd.underlying44 info4 rfl .i64 .i64 cs.length (by omega) (by omega)
  rw [made_rep] at hmk
  obtain ⟨P, cc, hA⟩ := cAt_all hC
  have HA := Lib.hid hA
  have HC := Lib.hid hC
  clear hC hA hv
  have HL := Lib.hid hl
  have HR := Lib.hid hr
  clear hl hr
  obtain ⟨Al, cl, hvl, -⟩ := HL.out
  subst hvl
  obtain ⟨Ar, cr, hvr, -⟩ := HR.out
  subst hvr
  go_enter Tryd.func47, Tryd.ntmps47
  go_wp2_with fail
  have HS : Hid (EvH w ((w.alloc (Obj.cells #[.int .i64 15, .int .i64 num, .int .i64 lf, .int .i64 rt] 53 (0, 0))).alloc (Obj.cells (rep cs.length 0).toArray 4 (0, 0))) w.heap.size #[.int .i64 15, .int .i64 num, .int .i64 lf, .int .i64 rt] (.slice (some ⟨w.heap.size + 1, 0, none⟩) cs.length cs.length) (part 15 num cs l r 0)) := by
    refine Lib.hid ⟨Nat.le_refl _, heap_alloc_old (heap_alloc_at _ rfl) _, ?_, (Bel.alloc w _).thenAlloc _⟩
    rw [part_zero]
    have h := made_R w (w.alloc (Obj.cells #[.int .i64 15, .int .i64 num, .int .i64 lf, .int .i64 rt] 53 (0, 0))) cs.length hn (by simp)
    rw [World.size_alloc] at h
    exact h
  clear hmk
  generalize (w.alloc (Obj.cells #[.int .i64 15, .int .i64 num, .int .i64 lf, .int .i64 rt] 53 (0, 0))).alloc (Obj.cells (rep cs.length 0).toArray 4 (0, 0)) = W at *
  obtain ⟨b5, hb5⟩ : ∃ b5, w.heap.size = b5 := ⟨_, rfl⟩
  rw [hb5] at HS ⊢
  have HB5 := Lib.hid hb5
  clear hb5
  generalize b5 + 1 = g at *
  go_loopw [67] (fun i wr => ∃ j : Nat, j ≤ cs.length ∧ i = .int .i64 j ∧ Hid (EvH w wr b5 #[.int .i64 15, .int .i64 num, .int .i64 lf, .int .i64 rt] (.slice (some ⟨g, 0, none⟩) cs.length cs.length) (part 15 num cs l r j))) (fun i _ => cs.length - (intOf i).toNat)
  case atStart => exact ⟨0, Nat.zero_le _, rfl, HS⟩
  case round =>
    obtain ⟨j, hj, rfl, HE⟩ := hrel
    by_cases hlt : j < cs.length
    · obtain ⟨ad, hAd, hx0, hx1, hx2, hx3, hx4, -, -⟩ := HA.out j hlt
      subst hAd
      replace hx0 := (HE.out.bel.cell (World.block_lt_of_cell? w _ hx0)).trans hx0
      replace hx1 := (HE.out.bel.cell (World.block_lt_of_cell? w _ hx1)).trans hx1
      replace hx2 := (HE.out.bel.cell (World.block_lt_of_cell? w _ hx2)).trans hx2
      replace hx3 := (HE.out.bel.cell (World.block_lt_of_cell? w _ hx3)).trans hx3
      replace hx4 := (HE.out.bel.cell (World.block_lt_of_cell? w _ hx4)).trans hx4
      have HP := Lib.hid (part_set 15 num cs l r j hlt)
      generalize cs.getD j z51 = cm at *
      generalize P j = pk at *
      generalize cc j = ck at *
      have hk0 : wr.cell? ⟨b5, 0, none⟩ = some (.int .i64 15) := (blk_cell HE.out.blk 0).trans rfl
      have hk1 : wr.cell? ⟨b5, 1, none⟩ = some (.int .i64 num) := (blk_cell HE.out.blk 1).trans rfl
      obtain ⟨hcj, hfj⟩ := HE.out.cell j hlt
      have hl5 : b5 < wr.heap.size := (Array.getElem?_eq_some_iff.1 HE.out.blk).1
      have hlg : g < wr.heap.size := Kd.R_lt HE.out.row g rfl
      obtain ⟨Al', cl', e1, h1, -, hCl⟩ := HL.out
      injection e1 with e1 _ e3
      subst e1 e3
      obtain ⟨Ar', cr', e1, h3, -, hCr⟩ := HR.out
      injection e1 with e1 _ e3
      subst e1 e3
      obtain ⟨adl, eL, hxl⟩ := Kd.at_bool (Kd.C_below hCl HE.out.bel) (j : Int) (by omega) (by omega)
      obtain ⟨adr, eR, hxr⟩ := Kd.at_bool (Kd.C_below hCr HE.out.bel) (j : Int) (by omega) (by omega)
      subst eL eR
      rw [rdOf, Int.toNat_natCast, List.getD_eq_getElem?_getD] at hxl hxr
      clear hCl hCr
      generalize hbl : l[j]?.getD false = bl at *
      generalize hbr : r[j]?.getD false = br at *
      have hxl2 := (Bel.alloc wr (Obj.cells #[.slice pk cm.f0.length ck, .int .i64 cm.f1, .int .i64 cm.f2, .int .i64 cm.f3, .string cm.f4] 51 (0, 0))).cell hxl
      have hxr2 := (Bel.alloc wr (Obj.cells #[.slice pk cm.f0.length ck, .int .i64 cm.f1, .int .i64 cm.f2, .int .i64 cm.f3, .string cm.f4] 51 (0, 0))).cell hxr
      have HBL := Lib.hid hbl
      have HBR := Lib.hid hbr
      clear hbl hbr
      have b1 : (0 : Int) ≤ (j : Int) := by omega
      have b2 : (j : Int) < (cs.length : Int) := by omega
      cases bl with
      | true =>
        go_wp2_with fail
        go_roundw
        case rel =>
          refine ⟨j + 1, by omega, rfl, Lib.hid ?_⟩
          rw [← HP.out]
          simp only [leafF, List.getD_eq_getElem?_getD, HBL.out, HBR.out]
          exact (HE.out.put j _).alloc _
        case measure => simp [intOf]; omega
      | false =>
        go_wp2_with fail
        go_roundw
        case rel =>
          refine ⟨j + 1, by omega, rfl, Lib.hid ?_⟩
          rw [← HP.out]
          simp only [leafF, List.getD_eq_getElem?_getD, HBL.out, HBR.out]
          exact (HE.out.put j _).alloc _
        case measure => simp [intOf]; omega
    · obtain rfl : j = cs.length := by omega
      go_wp2_with fail
      go_ret
      rw [part_all] at HE
      have hs := SelV.of_R HE.out.row
      rw [show (loopF 15 num cs l r).length = cs.length by simp [loopF]] at hs
      exact ⟨_, _, rfl, hs, HE.out.bel⟩

/-- revset.eval at a node of a right kind. -/
theorem eval_any (k num lf rt : Int) (hk1 : 1 ≤ k) (hk2 : k ≤ 16) (cs : List S51) (A : Option Addr) (c : Nat) (l r : List Bool) (vl vr : Value) (w : World) (hv : VH cs) (hC : Kd.C k51 w A cs.length cs) (hc : cs.length ≤ c) (hl : 7 ≤ k → SelV w cs.length vl l) (hr : 14 ≤ k → SelV w cs.length vr r) :
    Calls Tryd.prog 47 #[.slice A cs.length c, .agg #[.int .i64 k, .int .i64 num, .int .i64 lf, .int .i64 rt], vl, vr] w (RetSel w cs.length (evalF k num cs l r)) := by
  have h : k = 1 ∨ k = 2 ∨ k = 3 ∨ k = 4 ∨ k = 5 ∨ k = 6 ∨ k = 7 ∨ k = 8 ∨ k = 9 ∨ k = 10 ∨ k = 11 ∨ k = 12 ∨ k = 13 ∨ k = 14 ∨ k = 15 ∨ k = 16 := by omega
  rcases h with rfl | rfl | rfl | rfl | rfl | rfl | rfl | rfl | rfl | rfl | rfl | rfl | rfl | rfl | rfl | rfl
  · exact eval_loop1 num lf rt cs A c l r vl vr w hv hC hc
  · exact eval_loop2 num lf rt cs A c l r vl vr w hv hC hc
  · exact eval_loop3 num lf rt cs A c l r vl vr w hv hC hc
  · exact eval_loop4 num lf rt cs A c l r vl vr w hv hC hc
  · exact eval_loop5 num lf rt cs A c l r vl vr w hv hC hc
  · exact eval_loop6 num lf rt cs A c l r vl vr w hv hC hc
  · exact eval_not num lf rt cs A c l vl vr w hv (hl (by decide))
  · exact eval_spread8 num lf rt cs A c l vl vr w hv hC hc (hl (by decide))
  · exact eval_spread9 num lf rt cs A c l vl vr w hv hC hc (hl (by decide))
  · exact eval_step10 num lf rt cs A c l vl vr w hv hC hc (hl (by decide))
  · exact eval_step11 num lf rt cs A c l vl vr w hv hC hc (hl (by decide))
  · exact eval_end12 num lf rt cs A c l vl vr w hv hC hc (hl (by decide))
  · exact eval_end13 num lf rt cs A c l vl vr w hv hC hc (hl (by decide))
  · exact eval_loop14 num lf rt cs A c l r vl vr w hv hC hc (hl (by decide)) (hr (by decide))
  · exact eval_loop15 num lf rt cs A c l r vl vr w hv hC hc (hl (by decide)) (hr (by decide))
  · exact eval_minus num lf rt cs A c l r vl vr w hv (hl (by decide)) (hr (by decide))

end Go.Proofs.YtijaoedlhmdpnaaDoor
/- revset.Validate: what it computes, in plain Lean; arity walked. -/
namespace Go.Proofs.YtijaoedlhmdpnaaDoor
open Go.RowKit Go.Proofs.YtijaoedlhmdpnaaDoor.PTopQueriesKept Go.Proofs.YtijaoedlhmdpnaaDoorW.PrintWords

/-- How many operands a kind has, and the largest number. -/
def ar (k : Int) : Nat := if k < 7 then 0 else if k < 14 then 1 else 2
def most (k : Int) : Int := if k = 3 then 59 else if k = 4 then 7 else if k = 5 then 100000 else 0

def RetTwo (w : World) (a b : Int) (e : Ending) (w' : World) : Prop := e = .returned (.tuple #[.int .i64 a, .int .i64 b]) ∧ ∃ n, w' = w.drewN n
set_option maxHeartbeats 1000000 in
theorem arity_any (k : Int) (h1 : 1 ≤ k) (h16 : k ≤ 16) (w : World) : Calls Tryd.prog 46 #[.int .i64 k] w (RetTwo w (ar k) (most k)) := by
  have hk : k = 1 ∨ k = 2 ∨ k = 3 ∨ k = 4 ∨ k = 5 ∨ k = 6 ∨ k = 7 ∨ k = 8 ∨ k = 9 ∨ k = 10 ∨ k = 11 ∨ k = 12 ∨ k = 13 ∨ k = 14 ∨ k = 15 ∨ k = 16 := by omega
  rcases hk with rfl | rfl | rfl | rfl | rfl | rfl | rfl | rfl | rfl | rfl | rfl | rfl | rfl | rfl | rfl | rfl
  all_goals
    go_enter Tryd.func46, Tryd.ntmps46
    go_wp2_with fail
    go_ret2
    exact ⟨rfl, 0, rfl⟩

/-- The error at a node: the roots that are not operands yet, the node's number, the node. -/
def vErr (op : List Int) (i : Int) (n : S53) : Option (Int × Int) :=
  if n.f0 < 1 ∨ 16 < n.f0 then some (4, i)
  else if n.f1 < 0 ∨ most n.f0 < n.f1 then some (3, i)
  else if op.length < ar n.f0 then some (5, i)
  else if n.f2 = (if 0 < ar n.f0 then op.getD (op.length - ar n.f0) 0 else 0) ∧ n.f3 = (if 1 < ar n.f0 then op.getD (op.length - 1) 0 else 0) then none
  else some (5, i)
/-- The roots that are not operands yet, behind a node. -/
def vNext (op : List Int) (i : Int) (n : S53) : List Int := op.take (op.length - ar n.f0) ++ [i]
def vLoop : List S53 → Int → List Int → Int × Int
  | [], _, op => if 1 < op.length then (5, -1) else (0, 0)
  | n :: ns, i, op => match vErr op i n with
    | some f => f
    | none => vLoop ns (i + 1) (vNext op i n)
def validate (xs : List S53) : Int × Int := if xs.length = 0 ∨ 40 < xs.length then (9, -1) else vLoop xs 0 []

end Go.Proofs.YtijaoedlhmdpnaaDoor
/- Queries and trees: what Validate lets through; what Eval computes: plain Lean. -/
namespace Go.Proofs.YtijaoedlhmdpnaaDoor
open Go.RowKit Go.Proofs.YtijaoedlhmdpnaaDoor.PTopQueriesKept Go.Proofs.YtijaoedlhmdpnaaDoorW.PrintWords

/-! ### validate of a tree's nodes -/
/-- The numbers lie in their ranges. -/
def NOk : RT → Prop
  | .nil => True
  | .node k n l r => 0 ≤ n ∧ n ≤ most k ∧ NOk l ∧ NOk r

theorem vErr_leaf {k n i : Int} (op : List Int) (h1 : 1 ≤ k) (h6 : k ≤ 6) (h0 : 0 ≤ n) (hm : n ≤ most k) : vErr op i ⟨k, n, 0, 0⟩ = none := by
  have ha : ar k = 0 := by simp [ar]; omega
  unfold vErr
  simp only [ha]
  rw [if_neg (by omega), if_neg (by omega), if_neg (by omega)]
  simp
theorem vErr_un {k n i a : Int} (op : List Int) (h7 : 7 ≤ k) (h13 : k ≤ 13) (h0 : 0 ≤ n) (hm : n ≤ most k) : vErr (op ++ [a]) i ⟨k, n, a, 0⟩ = none := by
  have ha : ar k = 1 := by unfold ar; rw [if_neg (by omega), if_pos (by omega)]
  unfold vErr
  simp only [ha]
  rw [if_neg (by omega), if_neg (by omega), if_neg (by simp)]
  simp
theorem vErr_bin {k n i a b : Int} (op : List Int) (h14 : 14 ≤ k) (h16 : k ≤ 16) (h0 : 0 ≤ n) (hm : n ≤ most k) : vErr (op ++ [a, b]) i ⟨k, n, a, b⟩ = none := by
  have ha : ar k = 2 := by unfold ar; rw [if_neg (by omega), if_neg (by omega)]
  unfold vErr
  simp only [ha]
  rw [if_neg (by omega), if_neg (by omega), if_neg (by simp)]
  simp
theorem vErr_num {k n i a b : Int} (op : List Int) (h1 : 1 ≤ k) (h16 : k ≤ 16) (hn : ¬ (0 ≤ n ∧ n ≤ most k)) : vErr op i ⟨k, n, a, b⟩ = some (3, i) := by
  unfold vErr
  rw [if_neg (by simp only; omega), if_pos (by simp only; omega)]

theorem vErr_none {op : List Int} {i : Int} {n : S53} (h : vErr op i n = none) : 1 ≤ n.f0 ∧ n.f0 ≤ 16 ∧ 0 ≤ n.f1 ∧ n.f1 ≤ most n.f0 ∧ ar n.f0 ≤ op.length ∧ n.f2 = (if 0 < ar n.f0 then op.getD (op.length - ar n.f0) 0 else 0) ∧ n.f3 = (if 1 < ar n.f0 then op.getD (op.length - 1) 0 else 0) := by
  unfold vErr at h
  by_cases h1 : n.f0 < 1 ∨ 16 < n.f0
  · rw [if_pos h1] at h; cases h
  rw [if_neg h1] at h
  by_cases h2 : n.f1 < 0 ∨ most n.f0 < n.f1
  · rw [if_pos h2] at h; cases h
  rw [if_neg h2] at h
  by_cases h3 : op.length < ar n.f0
  · rw [if_pos h3] at h; cases h
  rw [if_neg h3] at h
  by_cases h4 : n.f2 = (if 0 < ar n.f0 then op.getD (op.length - ar n.f0) 0 else 0) ∧ n.f3 = (if 1 < ar n.f0 then op.getD (op.length - 1) 0 else 0)
  · exact ⟨by omega, by omega, by omega, by omega, by omega, h4.1, h4.2⟩
  · rw [if_neg h4] at h; cases h
theorem vErr_some {op : List Int} {i : Int} {n : S53} {f : Int × Int} (h : vErr op i n = some f) : f.1 ≠ 0 := by
  unfold vErr at h
  by_cases h1 : n.f0 < 1 ∨ 16 < n.f0
  · rw [if_pos h1] at h; cases h; simp
  rw [if_neg h1] at h
  by_cases h2 : n.f1 < 0 ∨ most n.f0 < n.f1
  · rw [if_pos h2] at h; cases h; simp
  rw [if_neg h2] at h
  by_cases h3 : op.length < ar n.f0
  · rw [if_pos h3] at h; cases h; simp
  rw [if_neg h3] at h
  by_cases h4 : n.f2 = (if 0 < ar n.f0 then op.getD (op.length - ar n.f0) 0 else 0) ∧ n.f3 = (if 1 < ar n.f0 then op.getD (op.length - 1) 0 else 0)
  · rw [if_pos h4] at h; cases h
  · rw [if_neg h4] at h; cases h; simp

theorem vLoop_post {t : RT} (hs : Sh t) : ∀ (off : Nat) (op : List Int) (ns : List S53), (NOk t → vLoop (t.post off ++ ns) (off : Int) op = vLoop ns ((off + t.size : Nat) : Int) (op ++ [t.root off])) ∧ (¬ NOk t → ∃ i, vLoop (t.post off ++ ns) (off : Int) op = (3, i)) := by
  induction hs with
  | @leaf k n h1 h6 =>
    intro off op ns
    simp only [RT.post, RT.root, RT.size, List.nil_append, List.cons_append, vLoop]
    refine ⟨fun ⟨h0, hm, _, _⟩ => ?_, fun hn => ?_⟩
    · rw [vErr_leaf op h1 h6 h0 hm]
      have ha : ar k = 0 := by simp [ar]; omega
      simp [vNext, ha]
    · rw [vErr_num op h1 (by omega) (fun h => hn ⟨h.1, h.2, trivial, trivial⟩)]
      exact ⟨_, rfl⟩
  | @un k n l h7 h13 hl ih =>
    intro off op ns
    obtain ⟨i1, i2⟩ := ih off op (⟨k, n, l.root off, 0⟩ :: ns)
    have hp : (RT.node k n l .nil).post off ++ ns = l.post off ++ (⟨k, n, l.root off, 0⟩ :: ns) := by simp [RT.post, RT.root]
    rw [hp]
    have ha : ar k = 1 := by unfold ar; rw [if_neg (by omega), if_pos (by omega)]
    refine ⟨fun ⟨h0, hm, hlo, _⟩ => ?_, fun hn => ?_⟩
    · rw [i1 hlo, vLoop, vErr_un op h7 h13 h0 hm]
      simp [vNext, ha, RT.size, RT.root, Int.add_assoc]
    · by_cases hlo : NOk l
      · rw [i1 hlo, vLoop, vErr_num _ (by omega) (by omega) (fun h => hn ⟨h.1, h.2, hlo, trivial⟩)]
        exact ⟨_, rfl⟩
      · exact i2 hlo
  | @bin k n l r h14 h16 hl hr ihl ihr =>
    intro off op ns
    obtain ⟨i1, i2⟩ := ihl off op (r.post (off + l.size) ++ (⟨k, n, l.root off, r.root (off + l.size)⟩ :: ns))
    obtain ⟨j1, j2⟩ := ihr (off + l.size) (op ++ [l.root off]) (⟨k, n, l.root off, r.root (off + l.size)⟩ :: ns)
    have hp : (RT.node k n l r).post off ++ ns = l.post off ++ (r.post (off + l.size) ++ (⟨k, n, l.root off, r.root (off + l.size)⟩ :: ns)) := by simp [RT.post]
    rw [hp]
    have ha : ar k = 2 := by unfold ar; rw [if_neg (by omega), if_neg (by omega)]
    refine ⟨fun ⟨h0, hm, hlo, hro⟩ => ?_, fun hn => ?_⟩
    · rw [i1 hlo, j1 hro, vLoop, List.append_assoc, List.singleton_append, vErr_bin op h14 h16 h0 hm]
      simp only [vNext, ha, RT.size, RT.root, List.length_append, List.length_cons, List.length_nil]
      rw [show op.length + (0 + 1 + 1) - 2 = op.length by omega, List.take_left]
      congr 1
      omega
    · by_cases hlo : NOk l
      · rw [i1 hlo]
        by_cases hro : NOk r
        · rw [j1 hro, vLoop, vErr_num _ (by omega) (by omega) (fun h => hn ⟨h.1, h.2, hlo, hro⟩)]
          exact ⟨_, rfl⟩
        · exact j2 hro
      · exact i2 hlo

/-- Validate of a tree's nodes: right, too long, or a number out of its range. -/
theorem validate_post {t : RT} (hs : Sh t) : validate (t.post 0) = (0, 0) ∧ NOk t ∧ t.size ≤ 40 ∨ (validate (t.post 0)).1 = 9 ∨ (validate (t.post 0)).1 = 3 := by
  unfold validate
  rw [RT.post_length]
  by_cases h : t.size = 0 ∨ 40 < t.size
  · rw [if_pos h]; exact .inr (.inl rfl)
  · rw [if_neg h]
    obtain ⟨h1, h2⟩ := vLoop_post hs 0 [] []
    simp only [List.append_nil, Nat.zero_add, List.nil_append] at h1 h2
    by_cases hn : NOk t
    · have := h1 hn
      rw [show ((0 : Nat) : Int) = 0 from rfl] at this
      exact .inl ⟨this.trans (by simp [vLoop]), hn, by omega⟩
    · obtain ⟨i, hi⟩ := h2 hn
      rw [show ((0 : Nat) : Int) = 0 from rfl] at hi
      exact .inr (.inr (by rw [hi]))

/-! ### a right query is a tree's -/
/-- The nodes of trees, one behind the other. -/
def fpost : List RT → Nat → List S53
  | [], _ => []
  | t :: ts, off => t.post off ++ fpost ts (off + t.size)
def fsize : List RT → Nat
  | [] => 0
  | t :: ts => t.size + fsize ts
def froots : List RT → Nat → List Int
  | [], _ => []
  | t :: ts, off => t.root off :: froots ts (off + t.size)
theorem fpost_append : ∀ (ts us : List RT) (off : Nat), fpost (ts ++ us) off = fpost ts off ++ fpost us (off + fsize ts)
  | [], us, off => by simp [fpost, fsize]
  | t :: ts, us, off => by simp [fpost, fsize, fpost_append ts us, Nat.add_assoc]
theorem froots_append : ∀ (ts us : List RT) (off : Nat), froots (ts ++ us) off = froots ts off ++ froots us (off + fsize ts)
  | [], us, off => by simp [froots, fsize]
  | t :: ts, us, off => by simp [froots, fsize, froots_append ts us, Nat.add_assoc]
theorem fsize_append : ∀ (ts us : List RT), fsize (ts ++ us) = fsize ts + fsize us
  | [], us => by simp [fsize]
  | t :: ts, us => by simp [fsize, fsize_append ts us, Nat.add_assoc]
theorem froots_length : ∀ (ts : List RT) (off : Nat), (froots ts off).length = ts.length
  | [], _ => rfl
  | t :: ts, off => by simp [froots, froots_length ts]

theorem snoc_of_length {α : Type} {l : List α} {n : Nat} (h : n + 1 ≤ l.length) : ∃ l' a, l = l' ++ [a] := by
  have hne : l ≠ [] := by intro h0; subst h0; simp at h
  exact ⟨l.dropLast, l.getLast hne, (List.dropLast_concat_getLast hne).symm⟩

theorem vLoop_trees : ∀ (ns : List S53) (ts : List RT), (∀ t, t ∈ ts → Sh t ∧ NOk t) → vLoop ns ((fsize ts : Nat) : Int) (froots ts 0) = (0, 0) →
    ∃ us, (∀ t, t ∈ us → Sh t ∧ NOk t) ∧ us.length ≤ 1 ∧ fpost ts 0 ++ ns = fpost us 0
  | [], ts, hts, h => by
    simp only [vLoop, froots_length] at h
    refine ⟨ts, hts, ?_, by simp⟩
    by_cases hl : 1 < ts.length
    · rw [if_pos hl] at h; cases h
    · omega
  | n :: ns, ts, hts, h => by
    rw [vLoop] at h
    cases hv : vErr (froots ts 0) ((fsize ts : Nat) : Int) n with
    | some f =>
      rw [hv] at h
      simp only at h
      subst h
      exact absurd rfl (vErr_some hv)
    | none =>
      rw [hv] at h
      simp only at h
      obtain ⟨k, num, f2, f3⟩ := n
      obtain ⟨g1, g16, g0, gm, ho, he2, he3⟩ := vErr_none hv
      clear hv
      · simp only [froots_length] at g1 g16 g0 gm ho he2 he3 h
        -- the trees behind this node
        have key : ∀ (vs : List RT) (t : RT), Sh t → NOk t → (∀ t, t ∈ vs → Sh t ∧ NOk t) → fpost ts 0 ++ [(⟨k, num, f2, f3⟩ : S53)] = fpost (vs ++ [t]) 0 → fsize (vs ++ [t]) = fsize ts + 1 → vNext (froots ts 0) ((fsize ts : Nat) : Int) ⟨k, num, f2, f3⟩ = froots (vs ++ [t]) 0 →
            ∃ us, (∀ t, t ∈ us → Sh t ∧ NOk t) ∧ us.length ≤ 1 ∧ fpost ts 0 ++ (⟨k, num, f2, f3⟩ :: ns) = fpost us 0 := by
          intro vs t ht hnt hvs hp hsz hr
          have hall : ∀ u, u ∈ vs ++ [t] → Sh u ∧ NOk u := by
            intro u hu
            rcases List.mem_append.1 hu with hu | hu
            · exact hvs u hu
            · rw [List.mem_singleton] at hu; subst hu; exact ⟨ht, hnt⟩
          rw [hr] at h
          have hi : ((fsize ts : Nat) : Int) + 1 = ((fsize (vs ++ [t]) : Nat) : Int) := by rw [hsz]; omega
          rw [hi] at h
          obtain ⟨us, h1, h2, h3⟩ := vLoop_trees ns (vs ++ [t]) hall h
          exact ⟨us, h1, h2, by rw [← h3, ← hp]; simp⟩
        by_cases h6 : k ≤ 6
        · have ha : ar k = 0 := by simp [ar]; omega
          rw [ha] at he2 he3
          obtain rfl : f2 = 0 := he2
          obtain rfl : f3 = 0 := he3
          refine key ts (.node k num .nil .nil) (.leaf (by omega) h6) ⟨by omega, by omega, trivial, trivial⟩ hts ?_ ?_ ?_
          · simp [fpost_append, fpost, RT.post, RT.root]
          · simp [fsize_append, fsize, RT.size]
          · simp [vNext, ha, froots_append, froots, RT.root, RT.size, froots_length]
            rw [← froots_length ts 0, List.take_length]
        by_cases h13 : k ≤ 13
        · have ha : ar k = 1 := by unfold ar; rw [if_neg (by omega), if_pos (by omega)]
          rw [ha] at he2 he3 ho
          obtain ⟨ts', l, rfl⟩ := snoc_of_length (l := ts) (n := 0) (by omega)
          have hl := hts l (by simp)
          obtain rfl : f3 = 0 := he3
          obtain rfl : f2 = l.root (fsize ts') := by simpa [froots_append, froots, froots_length] using he2
          refine key ts' (.node k num l .nil) (.un (by omega) h13 hl.1) ⟨by omega, by omega, hl.2, trivial⟩ (fun t ht => hts t (by simp [ht])) ?_ ?_ ?_
          · simp [fpost_append, fpost, RT.post, RT.root]
          · simp [fsize_append, fsize, RT.size]; omega
          · simp [vNext, ha, froots_append, froots, RT.root, RT.size, froots_length, fsize_append, fsize]
        · have ha : ar k = 2 := by unfold ar; rw [if_neg (by omega), if_neg (by omega)]
          rw [ha] at he2 he3 ho
          obtain ⟨ts1, r, rfl⟩ := snoc_of_length (l := ts) (n := 0) (by omega)
          obtain ⟨ts', l, rfl⟩ := snoc_of_length (l := ts1) (n := 0) (by simp at ho; omega)
          have hl := hts l (by simp)
          have hr := hts r (by simp)
          have hrt : froots (ts' ++ [l] ++ [r]) 0 = froots ts' 0 ++ [l.root (fsize ts'), r.root (fsize ts' + l.size)] := by
            simp [froots_append, froots, fsize_append, fsize]
          rw [hrt] at he2 he3
          obtain rfl : f2 = l.root (fsize ts') := by simpa [froots_length] using he2
          obtain rfl : f3 = r.root (fsize ts' + l.size) := by simpa [froots_length] using he3
          refine key ts' (.node k num l r) (.bin (by omega) (by omega) hl.1 hr.1) ⟨by omega, by omega, hl.2, hr.2⟩ (fun t ht => hts t (by simp [ht])) ?_ ?_ ?_
          · simp [fpost_append, fpost, RT.post, RT.root, fsize_append, fsize]
          · simp [fsize_append, fsize, RT.size]; omega
          · rw [hrt]
            simp [vNext, ha, froots_append, froots, RT.root, RT.size, froots_length, fsize_append, fsize, Int.add_assoc]

/-- A right query is the list of a tree's nodes. -/
theorem validate_tree {xs : List S53} (h : validate xs = (0, 0)) : ∃ t, Sh t ∧ NOk t ∧ t.size ≤ 40 ∧ xs = t.post 0 := by
  unfold validate at h
  split at h
  · cases h
  · rename_i hl
    obtain ⟨us, h1, h2, h3⟩ := vLoop_trees xs [] (by simp) h
    rw [show fpost [] 0 ++ xs = xs from rfl] at h3
    match us, h1, h2, h3 with
    | [], _, _, h3 => subst h3; simp [fpost] at hl
    | [t], h1, _, h3 =>
      have h4 : xs = t.post 0 := by simpa [fpost] using h3
      obtain ⟨h5, h6⟩ := h1 t (by simp)
      refine ⟨t, h5, h6, ?_, h4⟩
      rw [h4, RT.post_length] at hl
      omega

/-- Where Validate's code is 0 there is no error. -/
theorem vLoop_zero : ∀ (ns : List S53) (i : Int) (op : List Int), (vLoop ns i op).1 = 0 → vLoop ns i op = (0, 0)
  | [], i, op, h => by
    simp only [vLoop] at h ⊢
    split
    · rename_i h1; rw [if_pos h1] at h; cases h
    · rfl
  | n :: ns, i, op, h => by
    rw [vLoop] at h ⊢
    cases hv : vErr op i n with
    | some f => rw [hv] at h; exact absurd h (vErr_some hv)
    | none => rw [hv] at h; exact vLoop_zero ns _ _ h
theorem validate_zero {xs : List S53} (h : (validate xs).1 = 0) : validate xs = (0, 0) := by
  unfold validate at h ⊢
  split
  · rename_i h1; rw [if_pos h1] at h; cases h
  · rename_i h1; rw [if_neg h1] at h; exact vLoop_zero _ _ _ h

end Go.Proofs.YtijaoedlhmdpnaaDoor
/- What Eval computes on a tree's nodes: plain Lean. -/
namespace Go.Proofs.YtijaoedlhmdpnaaDoor
open Go.RowKit Go.Proofs.YtijaoedlhmdpnaaDoor.PTopQueriesKept Go.Proofs.YtijaoedlhmdpnaaDoorW.PrintWords

/-- What a tree selects. -/
def ev (cs : List S51) : RT → List Bool
  | .nil => []
  | .node k n l r => evalF k n cs (ev cs l) (ev cs r)
/-- What a tree's nodes select, in postorder. -/
def evs (cs : List S51) : RT → List (List Bool)
  | .nil => []
  | .node k n l r => evs cs l ++ (evs cs r ++ [ev cs (.node k n l r)])
def evStep (cs : List S51) (acc : List (List Bool)) (n : S53) : List (List Bool) := acc ++ [evalF n.f0 n.f1 cs (acc.getD n.f2.toNat []) (acc.getD n.f3.toNat [])]
/-- What the nodes xs select, one after the other. -/
def evList (cs : List S51) (xs : List S53) : List (List Bool) := xs.foldl (evStep cs) []

theorem evalF_leaf (k n : Int) (h6 : k ≤ 6) (cs : List S51) (l r l' r' : List Bool) : evalF k n cs l r = evalF k n cs l' r' := by
  unfold evalF
  rw [if_neg (by omega), if_neg (by omega), if_neg (by omega), if_neg (by omega), if_neg (by omega), if_neg (by omega), if_neg (by omega), if_neg (by omega), if_neg (by omega), if_neg (by omega)]
  unfold loopF
  congr 1
  funext i
  unfold leafF
  rw [if_neg (c := k = 14) (by omega), if_neg (c := k = 15) (by omega), if_neg (c := k = 14) (by omega), if_neg (c := k = 15) (by omega)]
theorem evalF_un (k n : Int) (h7 : 7 ≤ k) (h13 : k ≤ 13) (cs : List S51) (l r r' : List Bool) : evalF k n cs l r = evalF k n cs l r' := by
  have h : k = 7 ∨ k = 8 ∨ k = 9 ∨ k = 10 ∨ k = 11 ∨ k = 12 ∨ k = 13 := by omega
  rcases h with rfl | rfl | rfl | rfl | rfl | rfl | rfl <;> rfl

theorem evs_length (cs : List S51) : ∀ t : RT, (evs cs t).length = t.size
  | .nil => rfl
  | .node k n l r => by simp [evs, RT.size, evs_length cs l, evs_length cs r]; omega
/-- The value at a tree's root. -/
theorem evs_root (cs : List S51) {t : RT} (hs : Sh t) (off : Nat) (acc rest : List (List Bool)) (ha : acc.length = off) : (acc ++ (evs cs t ++ rest)).getD (t.root off).toNat [] = ev cs t := by
  cases t with
  | nil => exact absurd rfl hs.ne_nil
  | node k n l r =>
    rw [RT.root, Int.toNat_natCast, List.getD_eq_getElem?_getD, List.getElem?_append_right (by omega), List.getElem?_append_left (by rw [evs_length]; simp [RT.size]; omega)]
    simp only [evs]
    rw [List.getElem?_append_right (by rw [evs_length]; omega), List.getElem?_append_right (by rw [evs_length, evs_length]; omega)]
    rw [evs_length, evs_length, show off + l.size + r.size - acc.length - l.size - r.size = 0 by omega]
    rfl

theorem evFold_post (cs : List S51) {t : RT} (hs : Sh t) : ∀ (off : Nat) (acc : List (List Bool)), acc.length = off → (t.post off).foldl (evStep cs) acc = acc ++ evs cs t := by
  induction hs with
  | @leaf k n h1 h6 =>
    intro off acc ha
    simp only [RT.post, RT.root, List.nil_append, List.foldl_cons, List.foldl_nil, evStep, evs, ev]
    rw [evalF_leaf k n h6]
  | @un k n l h7 h13 hl ih =>
    intro off acc ha
    have hp : (RT.node k n l .nil).post off = l.post off ++ [⟨k, n, l.root off, 0⟩] := by simp [RT.post, RT.root]
    rw [hp, List.foldl_append, ih off acc ha]
    simp only [List.foldl_cons, List.foldl_nil, evStep, evs, ev, List.nil_append]
    have h := evs_root cs hl off acc [] ha
    rw [List.append_nil] at h
    rw [h, evalF_un k n h7 h13 cs _ _ [], List.append_assoc]
  | @bin k n l r h14 h16 hl hr ihl ihr =>
    intro off acc ha
    simp only [RT.post, List.foldl_append, List.foldl_cons, List.foldl_nil]
    rw [ihl off acc ha, ihr (off + l.size) (acc ++ evs cs l) (by simp [ha, evs_length])]
    simp only [evStep, evs, ev]
    have h1 := evs_root cs hl off acc (evs cs r) ha
    have h2 := evs_root cs hr (off + l.size) (acc ++ evs cs l) [] (by simp [ha, evs_length])
    rw [List.append_nil] at h2
    rw [h2, List.append_assoc acc, h1]
    simp

theorem evList_post (cs : List S51) {t : RT} (hs : Sh t) : evList cs (t.post 0) = evs cs t := by
  have := evFold_post cs hs 0 [] rfl
  simpa [evList] using this
theorem evs_last (cs : List S51) {t : RT} (hs : Sh t) : (evs cs t).getD (t.size - 1) [] = ev cs t := by
  have h := evs_root cs hs 0 [] [] rfl
  rw [RT.root_of_size hs.ne_nil] at h
  simpa using h
theorem evList_length (cs : List S51) : ∀ (xs : List S53) (acc : List (List Bool)), (xs.foldl (evStep cs) acc).length = acc.length + xs.length
  | [], acc => by simp
  | n :: xs, acc => by
    rw [List.foldl_cons, evList_length cs xs]
    simp [evStep]
    omega
theorem evList_take (cs : List S51) (xs : List S53) (i : Nat) (hi : i < xs.length) : evList cs (xs.take (i + 1)) = evStep cs (evList cs (xs.take i)) (xs.getD i z53) := by
  unfold evList
  rw [List.take_succ_eq_append_getElem hi, List.foldl_append]
  simp [hi]

/-- A tree's nodes look back. -/
theorem post_nodes {t : RT} (hs : Sh t) : ∀ (off j : Nat) (n : S53), (t.post off)[j]? = some n → 1 ≤ n.f0 ∧ n.f0 ≤ 16 ∧ (7 ≤ n.f0 → 0 ≤ n.f2 ∧ n.f2 < ((off + j : Nat) : Int) ∧ 0 ≤ n.f3 ∧ n.f3 < ((off + j : Nat) : Int)) := by
  have hroot : ∀ (t : RT) (off : Nat), 0 ≤ t.root off := fun t off => by cases t <;> simp [RT.root]; omega
  have hlt : ∀ (t : RT), Sh t → ∀ (off : Nat), t.root off < ((off + t.size : Nat) : Int) := fun t ht off => by
    rw [RT.root_of_size ht.ne_nil]; omega
  induction hs with
  | @leaf k n h1 h6 =>
    intro off j m hm
    simp only [RT.post, List.nil_append, List.getElem?_singleton] at hm
    split at hm
    · cases hm; exact ⟨h1, by simp only; omega, fun h => by simp only at h; omega⟩
    · cases hm
  | @un k n l h7 h13 hl ih =>
    intro off j m hm
    simp only [RT.post, List.nil_append] at hm
    by_cases hj : j < l.size
    · rw [List.getElem?_append_left (by rw [RT.post_length]; exact hj)] at hm
      exact ih off j m hm
    · rw [List.getElem?_append_right (by rw [RT.post_length]; omega), RT.post_length, List.getElem?_singleton] at hm
      split at hm
      · cases hm
        have h1 := hroot l off
        have h2 := hlt l hl off
        have h3 : 0 < l.size := by cases hl <;> simp [RT.size]
        refine ⟨by simp only; omega, by simp only; omega, fun _ => ⟨h1, by simp only; omega, by simp [RT.root], by simp only [RT.root]; omega⟩⟩
      · cases hm
  | @bin k n l r h14 h16 hl hr ihl ihr =>
    intro off j m hm
    simp only [RT.post] at hm
    by_cases hj : j < l.size
    · rw [List.getElem?_append_left (by rw [RT.post_length]; exact hj)] at hm
      exact ihl off j m hm
    · rw [List.getElem?_append_right (by rw [RT.post_length]; omega), RT.post_length] at hm
      by_cases hj2 : j - l.size < r.size
      · rw [List.getElem?_append_left (by rw [RT.post_length]; exact hj2)] at hm
        have := ihr (off + l.size) (j - l.size) m hm
        rwa [show off + l.size + (j - l.size) = off + j by omega] at this
      · rw [List.getElem?_append_right (by rw [RT.post_length]; omega), RT.post_length, List.getElem?_singleton] at hm
        split at hm
        · cases hm
          have h1 := hroot l off
          have h2 := hlt l hl off
          have h3 := hroot r (off + l.size)
          have h4 := hlt r hr (off + l.size)
          refine ⟨by simp only; omega, by simp only; omega, fun _ => ⟨h1, by simp only; omega, h3, by simp only; omega⟩⟩
        · cases hm

theorem ev_length {cs : List S51} {t : RT} (hs : Sh t) : (ev cs t).length = cs.length := by
  induction hs with
  | @leaf k n h1 h6 => exact evalF_length k n cs _ _ (fun h => by omega) (fun h => by omega)
  | @un k n l h7 h13 hl ih => exact evalF_length k n cs _ _ (fun _ => ih) (fun h => by omega)
  | @bin k n l r h14 h16 hl hr ihl ihr => exact evalF_length k n cs _ _ (fun _ => ihl) (fun _ => ihr)

end Go.Proofs.YtijaoedlhmdpnaaDoor
